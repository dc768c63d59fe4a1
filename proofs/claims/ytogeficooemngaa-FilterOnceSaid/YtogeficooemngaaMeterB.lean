/-
  Contracts of meter.Check, meter.Mark and the reference.
-/
import Derived.Test.YtogeficooemngaaMeterA
namespace Go.Proofs.Ytogeficooemngaa
open Go.RowKit
set_option linter.unusedVariables false
set_option linter.unusedSimpArgs false

theorem in_yes (x lo hi : Int) (w0 : World) (h1 : lo ≤ x) (h2 : x ≤ hi) :
    Calls Try.prog 43 #[.int .i64 x, .int .i64 lo, .int .i64 hi] w0 (Ret w0 (.bool true)) := by
 refine enterK 15 Try.func43 rfl rfl rfl ?_
 intro a hF Q0 hR0 hN0
 have hM := Mem.start w0
 refine wp_seq_k fun K1 hK1 => ?_
 refine wp_region_lit ?_
 refine sB 1 [(6, .bool false)] hF (by kernel_rfl) fun a hF => ?_
 refine wpList_nil ?_
 refine hK1 _ _ ?_
 refine wp_seq_k fun K2 hK2 => ?_
 refine wp_region_lit ?_
 refine sB 2 [(7, .int .i64 x), (8, .int .i64 lo)] hF (by kernel_rfl) fun a hF => ?_
 refine wl (eP 9 (v0 := .bool (decide (lo ≤ x))) (v := .bool true) hF (by kernel_rfl) (fun _ => by kernel_rfl) (bT (by omega)) fun a hF => ?_)
 refine sB 3 [(10, .bool true), (11, .int .i64 x), (12, .int .i64 hi)] hF (by kernel_rfl) fun a hF => ?_
 refine wl (eP 13 (v0 := .bool (decide (x ≤ hi))) (v := .bool true) hF (by kernel_rfl) (fun _ => by kernel_rfl) (bT (by omega)) fun a hF => ?_)
 refine sB 2 [(14, .bool true), (6, .bool true)] hF (by kernel_rfl) fun a hF => ?_
 refine wpList_nil ?_
 refine hK2 _ _ ?_
 refine wp_ret ?_
 refine hR0 _ _ ?_
 refine ret_of hF hM (.tmp rfl (.nil)) ?_
 exact ⟨rfl, hM.bel⟩

theorem in_no (x lo hi : Int) (w0 : World) (hx : ¬ lo ≤ x ∨ ¬ x ≤ hi) :
    Calls Try.prog 43 #[.int .i64 x, .int .i64 lo, .int .i64 hi] w0 (Ret w0 (.bool false)) := by
 refine enterK 15 Try.func43 rfl rfl rfl ?_
 intro a hF Q0 hR0 hN0
 have hM := Mem.start w0
 refine wp_seq_k fun K1 hK1 => ?_
 refine wp_region_lit ?_
 refine sB 1 [(6, .bool false)] hF (by kernel_rfl) fun a hF => ?_
 refine wpList_nil ?_
 refine hK1 _ _ ?_
 refine wp_seq_k fun K2 hK2 => ?_
 by_cases hz1 : lo ≤ x
 ·skip
  refine wp_region_lit ?_
  refine sB 2 [(7, .int .i64 x), (8, .int .i64 lo)] hF (by kernel_rfl) fun a hF => ?_
  refine wl (eP 9 (v0 := .bool (decide (lo ≤ x))) (v := .bool true) hF (by kernel_rfl) (fun _ => by kernel_rfl) (bT hz1) fun a hF => ?_)
  refine sB 6 [(10, .bool true), (11, .int .i64 x), (12, .int .i64 hi), (13, .bool (decide (x ≤ hi))), (14, .bool (decide (x ≤ hi))), (6, .bool (decide (x ≤ hi)))] hF (by kernel_rfl) fun a hF => ?_
  refine wpList_nil ?_
  refine hK2 _ _ ?_
  refine wp_ret ?_
  refine hR0 _ _ ?_
  refine ret_of hF hM (.tmp rfl (.nil)) ?_
  exact ⟨ret_bool (decide_eq_false (by omega)), hM.bel⟩
 ·skip
  refine wp_region_lit ?_
  refine sB 2 [(7, .int .i64 x), (8, .int .i64 lo)] hF (by kernel_rfl) fun a hF => ?_
  refine wl (eP 9 (v0 := .bool (decide (lo ≤ x))) (v := .bool false) hF (by kernel_rfl) (fun _ => by kernel_rfl) (bF hz1) fun a hF => ?_)
  refine sB 6 [(10, .bool false), (11, undef), (12, undef), (13, undef), (14, .bool false), (6, .bool false)] hF (by kernel_rfl) fun a hF => ?_
  refine wpList_nil ?_
  refine hK2 _ _ ?_
  refine wp_ret ?_
  refine hR0 _ _ ?_
  refine ret_of hF hM (.tmp rfl (.nil)) ?_
  exact ⟨rfl, hM.bel⟩

theorem meterCheck_w (cb cr pb ps la co pe : Int) (w0 : World) :
    Calls Try.prog 32 #[.agg #[.int .i64 cb, .int .i64 cr], .agg #[.int .i64 pb, .int .i64 ps], .agg #[.int .i64 la, .int .i64 co, .int .i64 pe]] w0 (Ret w0 (.int .i64 (mtE cb cr pb ps la co pe))) := by
 refine enterK 50 Try.func32 rfl rfl rfl ?_
 intro a hF Q0 hR0 hN0
 have hM := Mem.start w0
 refine wp_seq_k fun K1 hK1 => ?_
 refine wp_region_lit ?_
 refine wl (eN 3 1 (t := 67) (fun b => .pointer (some ⟨b, 0, none⟩)) #[.int .i64 cb, .int .i64 cr] hF hM (by kernel_rfl) (fun _ => by kernel_rfl) fun bb1 a w hF hM => ?_)
 refine wl (eN 4 2 (t := 67) (fun b => .pointer (some ⟨b, 0, none⟩)) #[.int .i64 pb, .int .i64 ps] hF hM (by kernel_rfl) (fun _ => by kernel_rfl) fun bb2 a w hF hM => ?_)
 refine wl (eN 5 3 (t := 80) (fun b => .pointer (some ⟨b, 0, none⟩)) #[.int .i64 la, .int .i64 co, .int .i64 pe] hF hM (by kernel_rfl) (fun _ => by kernel_rfl) fun bb3 a w hF hM => ?_)
 refine sB 1 [(6, .int .i64 0)] hF (by kernel_rfl) fun a hF => ?_
 refine wpList_nil ?_
 refine hK1 _ _ ?_
 refine wp_seq_k fun K2 hK2 => ?_
 refine wp_region_lit ?_
 refine wl (eL 10 1 0 (v := .agg #[.int .i64 cb, .int .i64 cr]) hF hM (by kernel_rfl) rfl rfl (by kernel_rfl) (by kernel_rfl) fun a w hF hM => ?_)
 refine wl (eL 11 2 0 (v := .agg #[.int .i64 pb, .int .i64 ps]) hF hM (by kernel_rfl) rfl rfl (by kernel_rfl) (by kernel_rfl) fun a w hF hM => ?_)
 refine wl (eM 12 (v := .tuple #[.agg #[.int .i64 0, .int .i64 (newC cb cr pb ps), .int .i64 (newP cb cr pb ps)], .int .i64 (newE cb cr pb ps)]) hF hM (by kernel_rfl) (yld_call (f := 33) (args := #[.agg #[.int .i64 cb, .int .i64 cr], .agg #[.int .i64 pb, .int .i64 ps]]) hF (by kernel_rfl) (fun _ => by kernel_rfl) (fun w hM => meterNew_w cb cr pb ps w)) fun a w hF hM => ?_)
 refine sB 3 [(9, .tuple #[.agg #[.int .i64 0, .int .i64 (newC cb cr pb ps), .int .i64 (newP cb cr pb ps)], .int .i64 (newE cb cr pb ps)]), (13, .agg #[.int .i64 0, .int .i64 (newC cb cr pb ps), .int .i64 (newP cb cr pb ps)]), (14, .int .i64 (newE cb cr pb ps))] hF (by kernel_rfl) fun a hF => ?_
 refine wl (eN 7 4 (t := 80) (fun b => .pointer (some ⟨b, 0, none⟩)) #[.int .i64 0, .int .i64 0, .int .i64 0] hF hM (by kernel_rfl) (fun _ => by kernel_rfl) fun bb4 a w hF hM => ?_)
 refine wl (sStore (i := 4) (off := 0) (cs' := #[.int .i64 0, .int .i64 (newC cb cr pb ps), .int .i64 (newP cb cr pb ps)]) hF hM (by kernel_rfl) rfl rfl (by kernel_rfl) (by kernel_rfl) rfl (by kernel_rfl) fun w hM => ?_)
 refine sB 1 [(8, .int .i64 (newE cb cr pb ps))] hF (by kernel_rfl) fun a hF => ?_
 refine wpList_nil ?_
 refine hK2 _ _ ?_
 refine wp_seq_k fun K3 hK3 => ?_
 refine wp_seq_k fun K4 hK4 => ?_
 refine wp_region_lit ?_
 refine sB 2 [(15, .int .i64 (newE cb cr pb ps)), (16, .bool (!decide (newE cb cr pb ps = 0)))] hF (by kernel_rfl) fun a hF => ?_
 refine wpList_nil ?_
 refine hK4 _ _ ?_
 by_cases hz1 : newE cb cr pb ps = 0
 ·skip
  have hz2 := newE_ok hz1
  replace hF := hF.c hF (i := 16) (v := .bool false) rfl (nT hz1)
  refine cF hF (by kernel_rfl) (by kernel_rfl) ?_
  refine wp_skip ?_
  refine hK3 _ _ ?_
  refine wp_seq_k fun K5 hK5 => ?_
  refine wp_seq_k fun K6 hK6 => ?_
  by_cases hz3 : la < 0
  ·skip
   refine wp_region_lit ?_
   refine sB 1 [(18, .pointer (some ⟨bb3, 0, none⟩))] hF (by kernel_rfl) fun a hF => ?_
   refine wl (eL 19 3 0 (v := .int .i64 la) hF hM (by kernel_rfl) rfl rfl (by kernel_rfl) (by kernel_rfl) fun a w hF hM => ?_)
   refine wl (eP 20 (v0 := .bool (decide (la < 0))) (v := .bool true) hF (by kernel_rfl) (fun _ => by kernel_rfl) (bT hz3) fun a hF => ?_)
   refine sB 29 [(21, .bool true), (22, undef), (23, undef), (24, undef), (25, .bool true), (26, .bool true), (27, undef), (28, undef), (29, undef), (30, .bool true), (31, .bool true), (32, undef), (33, undef), (34, undef), (35, undef), (36, undef), (37, .bool true), (38, .bool true), (39, undef), (40, undef), (41, undef), (42, .bool true), (43, .bool true), (44, undef), (45, undef), (46, undef), (47, undef), (48, undef), (49, .bool true)] hF (by kernel_rfl) fun a hF => ?_
   refine wpList_nil ?_
   refine hK6 _ _ ?_
   refine cT hF (by kernel_rfl) (by kernel_rfl) ?_
   refine wp_seq_k fun K7 hK7 => ?_
   refine wp_region_lit ?_
   refine sB 1 [(6, .int .i64 420)] hF (by kernel_rfl) fun a hF => ?_
   refine wpList_nil ?_
   refine hK7 _ _ ?_
   refine wp_ret ?_
   refine hR0 _ _ ?_
   refine ret_of hF hM (.tmp rfl (.nil)) ?_
   exact ⟨ret_int (by unfold mtE; first | omega | (unfold newC newP at *; omega)), hM.bel⟩
  ·skip
   by_cases hz4 : 1099511627776 < la
   ·skip
    refine wp_region_lit ?_
    refine sB 1 [(18, .pointer (some ⟨bb3, 0, none⟩))] hF (by kernel_rfl) fun a hF => ?_
    refine wl (eL 19 3 0 (v := .int .i64 la) hF hM (by kernel_rfl) rfl rfl (by kernel_rfl) (by kernel_rfl) fun a w hF hM => ?_)
    refine wl (eP 20 (v0 := .bool (decide (la < 0))) (v := .bool false) hF (by kernel_rfl) (fun _ => by kernel_rfl) (bF hz3) fun a hF => ?_)
    refine sB 2 [(21, .bool false), (22, .pointer (some ⟨bb3, 0, none⟩))] hF (by kernel_rfl) fun a hF => ?_
    refine wl (eL 23 3 0 (v := .int .i64 la) hF hM (by kernel_rfl) rfl rfl (by kernel_rfl) (by kernel_rfl) fun a w hF hM => ?_)
    refine wl (eP 24 (v0 := .bool (decide (1099511627776 < la))) (v := .bool true) hF (by kernel_rfl) (fun _ => by kernel_rfl) (bT hz4) fun a hF => ?_)
    refine sB 25 [(25, .bool true), (26, .bool true), (27, undef), (28, undef), (29, undef), (30, .bool true), (31, .bool true), (32, undef), (33, undef), (34, undef), (35, undef), (36, undef), (37, .bool true), (38, .bool true), (39, undef), (40, undef), (41, undef), (42, .bool true), (43, .bool true), (44, undef), (45, undef), (46, undef), (47, undef), (48, undef), (49, .bool true)] hF (by kernel_rfl) fun a hF => ?_
    refine wpList_nil ?_
    refine hK6 _ _ ?_
    refine cT hF (by kernel_rfl) (by kernel_rfl) ?_
    refine wp_seq_k fun K8 hK8 => ?_
    refine wp_region_lit ?_
    refine sB 1 [(6, .int .i64 420)] hF (by kernel_rfl) fun a hF => ?_
    refine wpList_nil ?_
    refine hK8 _ _ ?_
    refine wp_ret ?_
    refine hR0 _ _ ?_
    refine ret_of hF hM (.tmp rfl (.nil)) ?_
    exact ⟨ret_int (by unfold mtE; first | omega | (unfold newC newP at *; omega)), hM.bel⟩
   ·skip
    by_cases hz5 : co < 0
    ·skip
     refine wp_region_lit ?_
     refine sB 1 [(18, .pointer (some ⟨bb3, 0, none⟩))] hF (by kernel_rfl) fun a hF => ?_
     refine wl (eL 19 3 0 (v := .int .i64 la) hF hM (by kernel_rfl) rfl rfl (by kernel_rfl) (by kernel_rfl) fun a w hF hM => ?_)
     refine wl (eP 20 (v0 := .bool (decide (la < 0))) (v := .bool false) hF (by kernel_rfl) (fun _ => by kernel_rfl) (bF hz3) fun a hF => ?_)
     refine sB 2 [(21, .bool false), (22, .pointer (some ⟨bb3, 0, none⟩))] hF (by kernel_rfl) fun a hF => ?_
     refine wl (eL 23 3 0 (v := .int .i64 la) hF hM (by kernel_rfl) rfl rfl (by kernel_rfl) (by kernel_rfl) fun a w hF hM => ?_)
     refine wl (eP 24 (v0 := .bool (decide (1099511627776 < la))) (v := .bool false) hF (by kernel_rfl) (fun _ => by kernel_rfl) (bF hz4) fun a hF => ?_)
     refine sB 3 [(25, .bool false), (26, .bool false), (27, .pointer (some ⟨bb3, 1, none⟩))] hF (by kernel_rfl) fun a hF => ?_
     refine wl (eL 28 3 1 (v := .int .i64 co) hF hM (by kernel_rfl) rfl rfl (by kernel_rfl) (by kernel_rfl) fun a w hF hM => ?_)
     refine wl (eP 29 (v0 := .bool (decide (co < 0))) (v := .bool true) hF (by kernel_rfl) (fun _ => by kernel_rfl) (bT hz5) fun a hF => ?_)
     refine sB 20 [(30, .bool true), (31, .bool true), (32, undef), (33, undef), (34, undef), (35, undef), (36, undef), (37, .bool true), (38, .bool true), (39, undef), (40, undef), (41, undef), (42, .bool true), (43, .bool true), (44, undef), (45, undef), (46, undef), (47, undef), (48, undef), (49, .bool true)] hF (by kernel_rfl) fun a hF => ?_
     refine wpList_nil ?_
     refine hK6 _ _ ?_
     refine cT hF (by kernel_rfl) (by kernel_rfl) ?_
     refine wp_seq_k fun K9 hK9 => ?_
     refine wp_region_lit ?_
     refine sB 1 [(6, .int .i64 420)] hF (by kernel_rfl) fun a hF => ?_
     refine wpList_nil ?_
     refine hK9 _ _ ?_
     refine wp_ret ?_
     refine hR0 _ _ ?_
     refine ret_of hF hM (.tmp rfl (.nil)) ?_
     exact ⟨ret_int (by unfold mtE; first | omega | (unfold newC newP at *; omega)), hM.bel⟩
    ·skip
     by_cases hz6 : newC cb cr pb ps < co
     ·skip
      refine wp_region_lit ?_
      refine sB 1 [(18, .pointer (some ⟨bb3, 0, none⟩))] hF (by kernel_rfl) fun a hF => ?_
      refine wl (eL 19 3 0 (v := .int .i64 la) hF hM (by kernel_rfl) rfl rfl (by kernel_rfl) (by kernel_rfl) fun a w hF hM => ?_)
      refine wl (eP 20 (v0 := .bool (decide (la < 0))) (v := .bool false) hF (by kernel_rfl) (fun _ => by kernel_rfl) (bF hz3) fun a hF => ?_)
      refine sB 2 [(21, .bool false), (22, .pointer (some ⟨bb3, 0, none⟩))] hF (by kernel_rfl) fun a hF => ?_
      refine wl (eL 23 3 0 (v := .int .i64 la) hF hM (by kernel_rfl) rfl rfl (by kernel_rfl) (by kernel_rfl) fun a w hF hM => ?_)
      refine wl (eP 24 (v0 := .bool (decide (1099511627776 < la))) (v := .bool false) hF (by kernel_rfl) (fun _ => by kernel_rfl) (bF hz4) fun a hF => ?_)
      refine sB 3 [(25, .bool false), (26, .bool false), (27, .pointer (some ⟨bb3, 1, none⟩))] hF (by kernel_rfl) fun a hF => ?_
      refine wl (eL 28 3 1 (v := .int .i64 co) hF hM (by kernel_rfl) rfl rfl (by kernel_rfl) (by kernel_rfl) fun a w hF hM => ?_)
      refine wl (eP 29 (v0 := .bool (decide (co < 0))) (v := .bool false) hF (by kernel_rfl) (fun _ => by kernel_rfl) (bF hz5) fun a hF => ?_)
      refine sB 3 [(30, .bool false), (31, .bool false), (32, .pointer (some ⟨bb3, 1, none⟩))] hF (by kernel_rfl) fun a hF => ?_
      refine wl (eL 33 3 1 (v := .int .i64 co) hF hM (by kernel_rfl) rfl rfl (by kernel_rfl) (by kernel_rfl) fun a w hF hM => ?_)
      refine sB 1 [(34, .pointer (some ⟨bb4, 1, none⟩))] hF (by kernel_rfl) fun a hF => ?_
      refine wl (eL 35 4 1 (v := .int .i64 (newC cb cr pb ps)) hF hM (by kernel_rfl) rfl rfl (by kernel_rfl) (by kernel_rfl) fun a w hF hM => ?_)
      refine wl (eP 36 (v0 := .bool (decide (newC cb cr pb ps < co))) (v := .bool true) hF (by kernel_rfl) (fun _ => by kernel_rfl) (bT hz6) fun a hF => ?_)
      refine sB 13 [(37, .bool true), (38, .bool true), (39, undef), (40, undef), (41, undef), (42, .bool true), (43, .bool true), (44, undef), (45, undef), (46, undef), (47, undef), (48, undef), (49, .bool true)] hF (by kernel_rfl) fun a hF => ?_
      refine wpList_nil ?_
      refine hK6 _ _ ?_
      refine cT hF (by kernel_rfl) (by kernel_rfl) ?_
      refine wp_seq_k fun K10 hK10 => ?_
      refine wp_region_lit ?_
      refine sB 1 [(6, .int .i64 420)] hF (by kernel_rfl) fun a hF => ?_
      refine wpList_nil ?_
      refine hK10 _ _ ?_
      refine wp_ret ?_
      refine hR0 _ _ ?_
      refine ret_of hF hM (.tmp rfl (.nil)) ?_
      exact ⟨ret_int (by unfold mtE; first | omega | (unfold newC newP at *; omega)), hM.bel⟩
     ·skip
      by_cases hz7 : pe < 0
      ·skip
       refine wp_region_lit ?_
       refine sB 1 [(18, .pointer (some ⟨bb3, 0, none⟩))] hF (by kernel_rfl) fun a hF => ?_
       refine wl (eL 19 3 0 (v := .int .i64 la) hF hM (by kernel_rfl) rfl rfl (by kernel_rfl) (by kernel_rfl) fun a w hF hM => ?_)
       refine wl (eP 20 (v0 := .bool (decide (la < 0))) (v := .bool false) hF (by kernel_rfl) (fun _ => by kernel_rfl) (bF hz3) fun a hF => ?_)
       refine sB 2 [(21, .bool false), (22, .pointer (some ⟨bb3, 0, none⟩))] hF (by kernel_rfl) fun a hF => ?_
       refine wl (eL 23 3 0 (v := .int .i64 la) hF hM (by kernel_rfl) rfl rfl (by kernel_rfl) (by kernel_rfl) fun a w hF hM => ?_)
       refine wl (eP 24 (v0 := .bool (decide (1099511627776 < la))) (v := .bool false) hF (by kernel_rfl) (fun _ => by kernel_rfl) (bF hz4) fun a hF => ?_)
       refine sB 3 [(25, .bool false), (26, .bool false), (27, .pointer (some ⟨bb3, 1, none⟩))] hF (by kernel_rfl) fun a hF => ?_
       refine wl (eL 28 3 1 (v := .int .i64 co) hF hM (by kernel_rfl) rfl rfl (by kernel_rfl) (by kernel_rfl) fun a w hF hM => ?_)
       refine wl (eP 29 (v0 := .bool (decide (co < 0))) (v := .bool false) hF (by kernel_rfl) (fun _ => by kernel_rfl) (bF hz5) fun a hF => ?_)
       refine sB 3 [(30, .bool false), (31, .bool false), (32, .pointer (some ⟨bb3, 1, none⟩))] hF (by kernel_rfl) fun a hF => ?_
       refine wl (eL 33 3 1 (v := .int .i64 co) hF hM (by kernel_rfl) rfl rfl (by kernel_rfl) (by kernel_rfl) fun a w hF hM => ?_)
       refine sB 1 [(34, .pointer (some ⟨bb4, 1, none⟩))] hF (by kernel_rfl) fun a hF => ?_
       refine wl (eL 35 4 1 (v := .int .i64 (newC cb cr pb ps)) hF hM (by kernel_rfl) rfl rfl (by kernel_rfl) (by kernel_rfl) fun a w hF hM => ?_)
       refine wl (eP 36 (v0 := .bool (decide (newC cb cr pb ps < co))) (v := .bool false) hF (by kernel_rfl) (fun _ => by kernel_rfl) (bF hz6) fun a hF => ?_)
       refine sB 3 [(37, .bool false), (38, .bool false), (39, .pointer (some ⟨bb3, 2, none⟩))] hF (by kernel_rfl) fun a hF => ?_
       refine wl (eL 40 3 2 (v := .int .i64 pe) hF hM (by kernel_rfl) rfl rfl (by kernel_rfl) (by kernel_rfl) fun a w hF hM => ?_)
       refine wl (eP 41 (v0 := .bool (decide (pe < 0))) (v := .bool true) hF (by kernel_rfl) (fun _ => by kernel_rfl) (bT hz7) fun a hF => ?_)
       refine sB 8 [(42, .bool true), (43, .bool true), (44, undef), (45, undef), (46, undef), (47, undef), (48, undef), (49, .bool true)] hF (by kernel_rfl) fun a hF => ?_
       refine wpList_nil ?_
       refine hK6 _ _ ?_
       refine cT hF (by kernel_rfl) (by kernel_rfl) ?_
       refine wp_seq_k fun K11 hK11 => ?_
       refine wp_region_lit ?_
       refine sB 1 [(6, .int .i64 420)] hF (by kernel_rfl) fun a hF => ?_
       refine wpList_nil ?_
       refine hK11 _ _ ?_
       refine wp_ret ?_
       refine hR0 _ _ ?_
       refine ret_of hF hM (.tmp rfl (.nil)) ?_
       exact ⟨ret_int (by unfold mtE; first | omega | (unfold newC newP at *; omega)), hM.bel⟩
      ·skip
       refine wp_region_lit ?_
       refine sB 1 [(18, .pointer (some ⟨bb3, 0, none⟩))] hF (by kernel_rfl) fun a hF => ?_
       refine wl (eL 19 3 0 (v := .int .i64 la) hF hM (by kernel_rfl) rfl rfl (by kernel_rfl) (by kernel_rfl) fun a w hF hM => ?_)
       refine wl (eP 20 (v0 := .bool (decide (la < 0))) (v := .bool false) hF (by kernel_rfl) (fun _ => by kernel_rfl) (bF hz3) fun a hF => ?_)
       refine sB 2 [(21, .bool false), (22, .pointer (some ⟨bb3, 0, none⟩))] hF (by kernel_rfl) fun a hF => ?_
       refine wl (eL 23 3 0 (v := .int .i64 la) hF hM (by kernel_rfl) rfl rfl (by kernel_rfl) (by kernel_rfl) fun a w hF hM => ?_)
       refine wl (eP 24 (v0 := .bool (decide (1099511627776 < la))) (v := .bool false) hF (by kernel_rfl) (fun _ => by kernel_rfl) (bF hz4) fun a hF => ?_)
       refine sB 3 [(25, .bool false), (26, .bool false), (27, .pointer (some ⟨bb3, 1, none⟩))] hF (by kernel_rfl) fun a hF => ?_
       refine wl (eL 28 3 1 (v := .int .i64 co) hF hM (by kernel_rfl) rfl rfl (by kernel_rfl) (by kernel_rfl) fun a w hF hM => ?_)
       refine wl (eP 29 (v0 := .bool (decide (co < 0))) (v := .bool false) hF (by kernel_rfl) (fun _ => by kernel_rfl) (bF hz5) fun a hF => ?_)
       refine sB 3 [(30, .bool false), (31, .bool false), (32, .pointer (some ⟨bb3, 1, none⟩))] hF (by kernel_rfl) fun a hF => ?_
       refine wl (eL 33 3 1 (v := .int .i64 co) hF hM (by kernel_rfl) rfl rfl (by kernel_rfl) (by kernel_rfl) fun a w hF hM => ?_)
       refine sB 1 [(34, .pointer (some ⟨bb4, 1, none⟩))] hF (by kernel_rfl) fun a hF => ?_
       refine wl (eL 35 4 1 (v := .int .i64 (newC cb cr pb ps)) hF hM (by kernel_rfl) rfl rfl (by kernel_rfl) (by kernel_rfl) fun a w hF hM => ?_)
       refine wl (eP 36 (v0 := .bool (decide (newC cb cr pb ps < co))) (v := .bool false) hF (by kernel_rfl) (fun _ => by kernel_rfl) (bF hz6) fun a hF => ?_)
       refine sB 3 [(37, .bool false), (38, .bool false), (39, .pointer (some ⟨bb3, 2, none⟩))] hF (by kernel_rfl) fun a hF => ?_
       refine wl (eL 40 3 2 (v := .int .i64 pe) hF hM (by kernel_rfl) rfl rfl (by kernel_rfl) (by kernel_rfl) fun a w hF hM => ?_)
       refine wl (eP 41 (v0 := .bool (decide (pe < 0))) (v := .bool false) hF (by kernel_rfl) (fun _ => by kernel_rfl) (bF hz7) fun a hF => ?_)
       refine sB 3 [(42, .bool false), (43, .bool false), (44, .pointer (some ⟨bb3, 2, none⟩))] hF (by kernel_rfl) fun a hF => ?_
       refine wl (eL 45 3 2 (v := .int .i64 pe) hF hM (by kernel_rfl) rfl rfl (by kernel_rfl) (by kernel_rfl) fun a w hF hM => ?_)
       refine sB 1 [(46, .pointer (some ⟨bb4, 2, none⟩))] hF (by kernel_rfl) fun a hF => ?_
       refine wl (eL 47 4 2 (v := .int .i64 (newP cb cr pb ps)) hF hM (by kernel_rfl) rfl rfl (by kernel_rfl) (by kernel_rfl) fun a w hF hM => ?_)
       refine sB 2 [(48, .bool (decide (newP cb cr pb ps < pe))), (49, .bool (decide (newP cb cr pb ps < pe)))] hF (by kernel_rfl) fun a hF => ?_
       refine wpList_nil ?_
       refine hK6 _ _ ?_
       by_cases hz8 : newP cb cr pb ps < pe
       ·skip
        replace hF := hF.c hF (i := 48) (v := .bool true) rfl (bT hz8)
        replace hF := hF.c hF (i := 49) (v := .bool true) rfl (bT hz8)
        refine cT hF (by kernel_rfl) (by kernel_rfl) ?_
        refine wp_seq_k fun K12 hK12 => ?_
        refine wp_region_lit ?_
        refine sB 1 [(6, .int .i64 420)] hF (by kernel_rfl) fun a hF => ?_
        refine wpList_nil ?_
        refine hK12 _ _ ?_
        refine wp_ret ?_
        refine hR0 _ _ ?_
        refine ret_of hF hM (.tmp rfl (.nil)) ?_
        exact ⟨ret_int (by unfold mtE; first | omega | (unfold newC newP at *; omega)), hM.bel⟩
       ·skip
        replace hF := hF.c hF (i := 48) (v := .bool false) rfl (bF hz8)
        replace hF := hF.c hF (i := 49) (v := .bool false) rfl (bF hz8)
        refine cF hF (by kernel_rfl) (by kernel_rfl) ?_
        refine wp_skip ?_
        refine hK5 _ _ ?_
        refine wp_seq_k fun K13 hK13 => ?_
        refine wp_region_lit ?_
        refine sB 1 [(6, .int .i64 0)] hF (by kernel_rfl) fun a hF => ?_
        refine wpList_nil ?_
        refine hK13 _ _ ?_
        refine wp_ret ?_
        refine hR0 _ _ ?_
        refine ret_of hF hM (.tmp rfl (.nil)) ?_
        exact ⟨ret_int (by unfold mtE; first | omega | (unfold newC newP at *; omega)), hM.bel⟩
 ·skip
  replace hF := hF.c hF (i := 16) (v := .bool true) rfl (nF hz1)
  refine cT hF (by kernel_rfl) (by kernel_rfl) ?_
  refine wp_seq_k fun K14 hK14 => ?_
  refine wp_region_lit ?_
  refine sB 2 [(17, .int .i64 (newE cb cr pb ps)), (6, .int .i64 (newE cb cr pb ps))] hF (by kernel_rfl) fun a hF => ?_
  refine wpList_nil ?_
  refine hK14 _ _ ?_
  refine wp_ret ?_
  refine hR0 _ _ ?_
  refine ret_of hF hM (.tmp rfl (.nil)) ?_
  exact ⟨ret_int (by unfold mtE; first | omega | (unfold newC newP at *; omega)), hM.bel⟩

theorem refCheck_w (cb cr pb ps la co pe : Int) (w0 : World) :
    Calls Try.prog 29 #[.agg #[.int .i64 cb, .int .i64 cr], .agg #[.int .i64 pb, .int .i64 ps], .agg #[.int .i64 la, .int .i64 co, .int .i64 pe]] w0 (Ret w0 (.int .i64 (mtE cb cr pb ps la co pe))) := by
 refine enterK 38 Try.func29 rfl rfl rfl ?_
 intro a hF Q0 hR0 hN0
 have hM := Mem.start w0
 refine wp_seq_k fun K1 hK1 => ?_
 refine wp_region_lit ?_
 refine wl (eN 3 1 (t := 67) (fun b => .pointer (some ⟨b, 0, none⟩)) #[.int .i64 cb, .int .i64 cr] hF hM (by kernel_rfl) (fun _ => by kernel_rfl) fun bb1 a w hF hM => ?_)
 refine wl (eN 4 2 (t := 67) (fun b => .pointer (some ⟨b, 0, none⟩)) #[.int .i64 pb, .int .i64 ps] hF hM (by kernel_rfl) (fun _ => by kernel_rfl) fun bb2 a w hF hM => ?_)
 refine wl (eN 5 3 (t := 80) (fun b => .pointer (some ⟨b, 0, none⟩)) #[.int .i64 la, .int .i64 co, .int .i64 pe] hF hM (by kernel_rfl) (fun _ => by kernel_rfl) fun bb3 a w hF hM => ?_)
 refine sB 1 [(6, .int .i64 0)] hF (by kernel_rfl) fun a hF => ?_
 refine wpList_nil ?_
 refine hK1 _ _ ?_
 refine wp_seq_k fun K2 hK2 => ?_
 refine wp_region_lit ?_
 refine wl (eL 10 1 0 (v := .agg #[.int .i64 cb, .int .i64 cr]) hF hM (by kernel_rfl) rfl rfl (by kernel_rfl) (by kernel_rfl) fun a w hF hM => ?_)
 refine wl (eL 11 2 0 (v := .agg #[.int .i64 pb, .int .i64 ps]) hF hM (by kernel_rfl) rfl rfl (by kernel_rfl) (by kernel_rfl) fun a w hF hM => ?_)
 refine wl (eM 12 (v := .tuple #[.agg #[.int .i64 0, .int .i64 (newC cb cr pb ps), .int .i64 (newP cb cr pb ps)], .int .i64 (newE cb cr pb ps)]) hF hM (by kernel_rfl) (yld_call (f := 34) (args := #[.agg #[.int .i64 cb, .int .i64 cr], .agg #[.int .i64 pb, .int .i64 ps]]) hF (by kernel_rfl) (fun _ => by kernel_rfl) (fun w hM => refNew_w cb cr pb ps w)) fun a w hF hM => ?_)
 refine sB 3 [(9, .tuple #[.agg #[.int .i64 0, .int .i64 (newC cb cr pb ps), .int .i64 (newP cb cr pb ps)], .int .i64 (newE cb cr pb ps)]), (13, .agg #[.int .i64 0, .int .i64 (newC cb cr pb ps), .int .i64 (newP cb cr pb ps)]), (14, .int .i64 (newE cb cr pb ps))] hF (by kernel_rfl) fun a hF => ?_
 refine wl (eN 7 4 (t := 80) (fun b => .pointer (some ⟨b, 0, none⟩)) #[.int .i64 0, .int .i64 0, .int .i64 0] hF hM (by kernel_rfl) (fun _ => by kernel_rfl) fun bb4 a w hF hM => ?_)
 refine wl (sStore (i := 4) (off := 0) (cs' := #[.int .i64 0, .int .i64 (newC cb cr pb ps), .int .i64 (newP cb cr pb ps)]) hF hM (by kernel_rfl) rfl rfl (by kernel_rfl) (by kernel_rfl) rfl (by kernel_rfl) fun w hM => ?_)
 refine sB 1 [(8, .int .i64 (newE cb cr pb ps))] hF (by kernel_rfl) fun a hF => ?_
 refine wpList_nil ?_
 refine hK2 _ _ ?_
 refine wp_seq_k fun K3 hK3 => ?_
 refine wp_seq_k fun K4 hK4 => ?_
 refine wp_region_lit ?_
 refine sB 2 [(15, .int .i64 (newE cb cr pb ps)), (16, .bool (!decide (newE cb cr pb ps = 0)))] hF (by kernel_rfl) fun a hF => ?_
 refine wpList_nil ?_
 refine hK4 _ _ ?_
 by_cases hz1 : newE cb cr pb ps = 0
 ·skip
  have hz2 := newE_ok hz1
  replace hF := hF.c hF (i := 16) (v := .bool false) rfl (nT hz1)
  refine cF hF (by kernel_rfl) (by kernel_rfl) ?_
  refine wp_skip ?_
  refine hK3 _ _ ?_
  refine wp_seq_k fun K5 hK5 => ?_
  refine wp_seq_k fun K6 hK6 => ?_
  by_cases hz3 : 0 ≤ la
  ·skip
   by_cases hz4 : la ≤ 1099511627776
   ·skip
    by_cases hz5 : 0 ≤ co
    ·skip
     by_cases hz6 : co ≤ newC cb cr pb ps
     ·skip
      by_cases hz7 : 0 ≤ pe
      ·skip
       by_cases hz8 : pe ≤ newP cb cr pb ps
       ·skip
        refine wp_region_lit ?_
        refine sB 1 [(18, .pointer (some ⟨bb3, 0, none⟩))] hF (by kernel_rfl) fun a hF => ?_
        refine wl (eL 19 3 0 (v := .int .i64 la) hF hM (by kernel_rfl) rfl rfl (by kernel_rfl) (by kernel_rfl) fun a w hF hM => ?_)
        refine wl (eM 20 (v := .bool true) hF hM (by kernel_rfl) (yld_call (f := 43) (args := #[.int .i64 la, .int .i64 0, .int .i64 1099511627776]) hF (by kernel_rfl) (fun _ => by kernel_rfl) (fun w hM => in_yes la 0 1099511627776 w hz3 hz4)) fun a w hF hM => ?_)
        refine sB 3 [(21, .bool false), (22, .bool false), (23, .pointer (some ⟨bb3, 1, none⟩))] hF (by kernel_rfl) fun a hF => ?_
        refine wl (eL 24 3 1 (v := .int .i64 co) hF hM (by kernel_rfl) rfl rfl (by kernel_rfl) (by kernel_rfl) fun a w hF hM => ?_)
        refine sB 1 [(25, .pointer (some ⟨bb4, 1, none⟩))] hF (by kernel_rfl) fun a hF => ?_
        refine wl (eL 26 4 1 (v := .int .i64 (newC cb cr pb ps)) hF hM (by kernel_rfl) rfl rfl (by kernel_rfl) (by kernel_rfl) fun a w hF hM => ?_)
        refine wl (eM 27 (v := .bool true) hF hM (by kernel_rfl) (yld_call (f := 43) (args := #[.int .i64 co, .int .i64 0, .int .i64 (newC cb cr pb ps)]) hF (by kernel_rfl) (fun _ => by kernel_rfl) (fun w hM => in_yes co 0 (newC cb cr pb ps) w hz5 hz6)) fun a w hF hM => ?_)
        refine sB 4 [(28, .bool false), (29, .bool false), (30, .bool false), (31, .pointer (some ⟨bb3, 2, none⟩))] hF (by kernel_rfl) fun a hF => ?_
        refine wl (eL 32 3 2 (v := .int .i64 pe) hF hM (by kernel_rfl) rfl rfl (by kernel_rfl) (by kernel_rfl) fun a w hF hM => ?_)
        refine sB 1 [(33, .pointer (some ⟨bb4, 2, none⟩))] hF (by kernel_rfl) fun a hF => ?_
        refine wl (eL 34 4 2 (v := .int .i64 (newP cb cr pb ps)) hF hM (by kernel_rfl) rfl rfl (by kernel_rfl) (by kernel_rfl) fun a w hF hM => ?_)
        refine wl (eM 35 (v := .bool true) hF hM (by kernel_rfl) (yld_call (f := 43) (args := #[.int .i64 pe, .int .i64 0, .int .i64 (newP cb cr pb ps)]) hF (by kernel_rfl) (fun _ => by kernel_rfl) (fun w hM => in_yes pe 0 (newP cb cr pb ps) w hz7 hz8)) fun a w hF hM => ?_)
        refine sB 2 [(36, .bool false), (37, .bool false)] hF (by kernel_rfl) fun a hF => ?_
        refine wpList_nil ?_
        refine hK6 _ _ ?_
        refine cF hF (by kernel_rfl) (by kernel_rfl) ?_
        refine wp_skip ?_
        refine hK5 _ _ ?_
        refine wp_seq_k fun K7 hK7 => ?_
        refine wp_region_lit ?_
        refine sB 1 [(6, .int .i64 0)] hF (by kernel_rfl) fun a hF => ?_
        refine wpList_nil ?_
        refine hK7 _ _ ?_
        refine wp_ret ?_
        refine hR0 _ _ ?_
        refine ret_of hF hM (.tmp rfl (.nil)) ?_
        exact ⟨ret_int (by unfold mtE; first | omega | (unfold newC newP at *; omega)), hM.bel⟩
       ·skip
        refine wp_region_lit ?_
        refine sB 1 [(18, .pointer (some ⟨bb3, 0, none⟩))] hF (by kernel_rfl) fun a hF => ?_
        refine wl (eL 19 3 0 (v := .int .i64 la) hF hM (by kernel_rfl) rfl rfl (by kernel_rfl) (by kernel_rfl) fun a w hF hM => ?_)
        refine wl (eM 20 (v := .bool true) hF hM (by kernel_rfl) (yld_call (f := 43) (args := #[.int .i64 la, .int .i64 0, .int .i64 1099511627776]) hF (by kernel_rfl) (fun _ => by kernel_rfl) (fun w hM => in_yes la 0 1099511627776 w hz3 hz4)) fun a w hF hM => ?_)
        refine sB 3 [(21, .bool false), (22, .bool false), (23, .pointer (some ⟨bb3, 1, none⟩))] hF (by kernel_rfl) fun a hF => ?_
        refine wl (eL 24 3 1 (v := .int .i64 co) hF hM (by kernel_rfl) rfl rfl (by kernel_rfl) (by kernel_rfl) fun a w hF hM => ?_)
        refine sB 1 [(25, .pointer (some ⟨bb4, 1, none⟩))] hF (by kernel_rfl) fun a hF => ?_
        refine wl (eL 26 4 1 (v := .int .i64 (newC cb cr pb ps)) hF hM (by kernel_rfl) rfl rfl (by kernel_rfl) (by kernel_rfl) fun a w hF hM => ?_)
        refine wl (eM 27 (v := .bool true) hF hM (by kernel_rfl) (yld_call (f := 43) (args := #[.int .i64 co, .int .i64 0, .int .i64 (newC cb cr pb ps)]) hF (by kernel_rfl) (fun _ => by kernel_rfl) (fun w hM => in_yes co 0 (newC cb cr pb ps) w hz5 hz6)) fun a w hF hM => ?_)
        refine sB 4 [(28, .bool false), (29, .bool false), (30, .bool false), (31, .pointer (some ⟨bb3, 2, none⟩))] hF (by kernel_rfl) fun a hF => ?_
        refine wl (eL 32 3 2 (v := .int .i64 pe) hF hM (by kernel_rfl) rfl rfl (by kernel_rfl) (by kernel_rfl) fun a w hF hM => ?_)
        refine sB 1 [(33, .pointer (some ⟨bb4, 2, none⟩))] hF (by kernel_rfl) fun a hF => ?_
        refine wl (eL 34 4 2 (v := .int .i64 (newP cb cr pb ps)) hF hM (by kernel_rfl) rfl rfl (by kernel_rfl) (by kernel_rfl) fun a w hF hM => ?_)
        refine wl (eM 35 (v := .bool false) hF hM (by kernel_rfl) (yld_call (f := 43) (args := #[.int .i64 pe, .int .i64 0, .int .i64 (newP cb cr pb ps)]) hF (by kernel_rfl) (fun _ => by kernel_rfl) (fun w hM => in_no pe 0 (newP cb cr pb ps) w (.inr hz8))) fun a w hF hM => ?_)
        refine sB 2 [(36, .bool true), (37, .bool true)] hF (by kernel_rfl) fun a hF => ?_
        refine wpList_nil ?_
        refine hK6 _ _ ?_
        refine cT hF (by kernel_rfl) (by kernel_rfl) ?_
        refine wp_seq_k fun K8 hK8 => ?_
        refine wp_region_lit ?_
        refine sB 1 [(6, .int .i64 420)] hF (by kernel_rfl) fun a hF => ?_
        refine wpList_nil ?_
        refine hK8 _ _ ?_
        refine wp_ret ?_
        refine hR0 _ _ ?_
        refine ret_of hF hM (.tmp rfl (.nil)) ?_
        exact ⟨ret_int (by unfold mtE; first | omega | (unfold newC newP at *; omega)), hM.bel⟩
      ·skip
       refine wp_region_lit ?_
       refine sB 1 [(18, .pointer (some ⟨bb3, 0, none⟩))] hF (by kernel_rfl) fun a hF => ?_
       refine wl (eL 19 3 0 (v := .int .i64 la) hF hM (by kernel_rfl) rfl rfl (by kernel_rfl) (by kernel_rfl) fun a w hF hM => ?_)
       refine wl (eM 20 (v := .bool true) hF hM (by kernel_rfl) (yld_call (f := 43) (args := #[.int .i64 la, .int .i64 0, .int .i64 1099511627776]) hF (by kernel_rfl) (fun _ => by kernel_rfl) (fun w hM => in_yes la 0 1099511627776 w hz3 hz4)) fun a w hF hM => ?_)
       refine sB 3 [(21, .bool false), (22, .bool false), (23, .pointer (some ⟨bb3, 1, none⟩))] hF (by kernel_rfl) fun a hF => ?_
       refine wl (eL 24 3 1 (v := .int .i64 co) hF hM (by kernel_rfl) rfl rfl (by kernel_rfl) (by kernel_rfl) fun a w hF hM => ?_)
       refine sB 1 [(25, .pointer (some ⟨bb4, 1, none⟩))] hF (by kernel_rfl) fun a hF => ?_
       refine wl (eL 26 4 1 (v := .int .i64 (newC cb cr pb ps)) hF hM (by kernel_rfl) rfl rfl (by kernel_rfl) (by kernel_rfl) fun a w hF hM => ?_)
       refine wl (eM 27 (v := .bool true) hF hM (by kernel_rfl) (yld_call (f := 43) (args := #[.int .i64 co, .int .i64 0, .int .i64 (newC cb cr pb ps)]) hF (by kernel_rfl) (fun _ => by kernel_rfl) (fun w hM => in_yes co 0 (newC cb cr pb ps) w hz5 hz6)) fun a w hF hM => ?_)
       refine sB 4 [(28, .bool false), (29, .bool false), (30, .bool false), (31, .pointer (some ⟨bb3, 2, none⟩))] hF (by kernel_rfl) fun a hF => ?_
       refine wl (eL 32 3 2 (v := .int .i64 pe) hF hM (by kernel_rfl) rfl rfl (by kernel_rfl) (by kernel_rfl) fun a w hF hM => ?_)
       refine sB 1 [(33, .pointer (some ⟨bb4, 2, none⟩))] hF (by kernel_rfl) fun a hF => ?_
       refine wl (eL 34 4 2 (v := .int .i64 (newP cb cr pb ps)) hF hM (by kernel_rfl) rfl rfl (by kernel_rfl) (by kernel_rfl) fun a w hF hM => ?_)
       refine wl (eM 35 (v := .bool false) hF hM (by kernel_rfl) (yld_call (f := 43) (args := #[.int .i64 pe, .int .i64 0, .int .i64 (newP cb cr pb ps)]) hF (by kernel_rfl) (fun _ => by kernel_rfl) (fun w hM => in_no pe 0 (newP cb cr pb ps) w (.inl hz7))) fun a w hF hM => ?_)
       refine sB 2 [(36, .bool true), (37, .bool true)] hF (by kernel_rfl) fun a hF => ?_
       refine wpList_nil ?_
       refine hK6 _ _ ?_
       refine cT hF (by kernel_rfl) (by kernel_rfl) ?_
       refine wp_seq_k fun K9 hK9 => ?_
       refine wp_region_lit ?_
       refine sB 1 [(6, .int .i64 420)] hF (by kernel_rfl) fun a hF => ?_
       refine wpList_nil ?_
       refine hK9 _ _ ?_
       refine wp_ret ?_
       refine hR0 _ _ ?_
       refine ret_of hF hM (.tmp rfl (.nil)) ?_
       exact ⟨ret_int (by unfold mtE; first | omega | (unfold newC newP at *; omega)), hM.bel⟩
     ·skip
      refine wp_region_lit ?_
      refine sB 1 [(18, .pointer (some ⟨bb3, 0, none⟩))] hF (by kernel_rfl) fun a hF => ?_
      refine wl (eL 19 3 0 (v := .int .i64 la) hF hM (by kernel_rfl) rfl rfl (by kernel_rfl) (by kernel_rfl) fun a w hF hM => ?_)
      refine wl (eM 20 (v := .bool true) hF hM (by kernel_rfl) (yld_call (f := 43) (args := #[.int .i64 la, .int .i64 0, .int .i64 1099511627776]) hF (by kernel_rfl) (fun _ => by kernel_rfl) (fun w hM => in_yes la 0 1099511627776 w hz3 hz4)) fun a w hF hM => ?_)
      refine sB 3 [(21, .bool false), (22, .bool false), (23, .pointer (some ⟨bb3, 1, none⟩))] hF (by kernel_rfl) fun a hF => ?_
      refine wl (eL 24 3 1 (v := .int .i64 co) hF hM (by kernel_rfl) rfl rfl (by kernel_rfl) (by kernel_rfl) fun a w hF hM => ?_)
      refine sB 1 [(25, .pointer (some ⟨bb4, 1, none⟩))] hF (by kernel_rfl) fun a hF => ?_
      refine wl (eL 26 4 1 (v := .int .i64 (newC cb cr pb ps)) hF hM (by kernel_rfl) rfl rfl (by kernel_rfl) (by kernel_rfl) fun a w hF hM => ?_)
      refine wl (eM 27 (v := .bool false) hF hM (by kernel_rfl) (yld_call (f := 43) (args := #[.int .i64 co, .int .i64 0, .int .i64 (newC cb cr pb ps)]) hF (by kernel_rfl) (fun _ => by kernel_rfl) (fun w hM => in_no co 0 (newC cb cr pb ps) w (.inr hz6))) fun a w hF hM => ?_)
      refine sB 10 [(28, .bool true), (29, .bool true), (30, .bool true), (31, undef), (32, undef), (33, undef), (34, undef), (35, undef), (36, undef), (37, .bool true)] hF (by kernel_rfl) fun a hF => ?_
      refine wpList_nil ?_
      refine hK6 _ _ ?_
      refine cT hF (by kernel_rfl) (by kernel_rfl) ?_
      refine wp_seq_k fun K10 hK10 => ?_
      refine wp_region_lit ?_
      refine sB 1 [(6, .int .i64 420)] hF (by kernel_rfl) fun a hF => ?_
      refine wpList_nil ?_
      refine hK10 _ _ ?_
      refine wp_ret ?_
      refine hR0 _ _ ?_
      refine ret_of hF hM (.tmp rfl (.nil)) ?_
      exact ⟨ret_int (by unfold mtE; first | omega | (unfold newC newP at *; omega)), hM.bel⟩
    ·skip
     refine wp_region_lit ?_
     refine sB 1 [(18, .pointer (some ⟨bb3, 0, none⟩))] hF (by kernel_rfl) fun a hF => ?_
     refine wl (eL 19 3 0 (v := .int .i64 la) hF hM (by kernel_rfl) rfl rfl (by kernel_rfl) (by kernel_rfl) fun a w hF hM => ?_)
     refine wl (eM 20 (v := .bool true) hF hM (by kernel_rfl) (yld_call (f := 43) (args := #[.int .i64 la, .int .i64 0, .int .i64 1099511627776]) hF (by kernel_rfl) (fun _ => by kernel_rfl) (fun w hM => in_yes la 0 1099511627776 w hz3 hz4)) fun a w hF hM => ?_)
     refine sB 3 [(21, .bool false), (22, .bool false), (23, .pointer (some ⟨bb3, 1, none⟩))] hF (by kernel_rfl) fun a hF => ?_
     refine wl (eL 24 3 1 (v := .int .i64 co) hF hM (by kernel_rfl) rfl rfl (by kernel_rfl) (by kernel_rfl) fun a w hF hM => ?_)
     refine sB 1 [(25, .pointer (some ⟨bb4, 1, none⟩))] hF (by kernel_rfl) fun a hF => ?_
     refine wl (eL 26 4 1 (v := .int .i64 (newC cb cr pb ps)) hF hM (by kernel_rfl) rfl rfl (by kernel_rfl) (by kernel_rfl) fun a w hF hM => ?_)
     refine wl (eM 27 (v := .bool false) hF hM (by kernel_rfl) (yld_call (f := 43) (args := #[.int .i64 co, .int .i64 0, .int .i64 (newC cb cr pb ps)]) hF (by kernel_rfl) (fun _ => by kernel_rfl) (fun w hM => in_no co 0 (newC cb cr pb ps) w (.inl hz5))) fun a w hF hM => ?_)
     refine sB 10 [(28, .bool true), (29, .bool true), (30, .bool true), (31, undef), (32, undef), (33, undef), (34, undef), (35, undef), (36, undef), (37, .bool true)] hF (by kernel_rfl) fun a hF => ?_
     refine wpList_nil ?_
     refine hK6 _ _ ?_
     refine cT hF (by kernel_rfl) (by kernel_rfl) ?_
     refine wp_seq_k fun K11 hK11 => ?_
     refine wp_region_lit ?_
     refine sB 1 [(6, .int .i64 420)] hF (by kernel_rfl) fun a hF => ?_
     refine wpList_nil ?_
     refine hK11 _ _ ?_
     refine wp_ret ?_
     refine hR0 _ _ ?_
     refine ret_of hF hM (.tmp rfl (.nil)) ?_
     exact ⟨ret_int (by unfold mtE; first | omega | (unfold newC newP at *; omega)), hM.bel⟩
   ·skip
    refine wp_region_lit ?_
    refine sB 1 [(18, .pointer (some ⟨bb3, 0, none⟩))] hF (by kernel_rfl) fun a hF => ?_
    refine wl (eL 19 3 0 (v := .int .i64 la) hF hM (by kernel_rfl) rfl rfl (by kernel_rfl) (by kernel_rfl) fun a w hF hM => ?_)
    refine wl (eM 20 (v := .bool false) hF hM (by kernel_rfl) (yld_call (f := 43) (args := #[.int .i64 la, .int .i64 0, .int .i64 1099511627776]) hF (by kernel_rfl) (fun _ => by kernel_rfl) (fun w hM => in_no la 0 1099511627776 w (.inr hz4))) fun a w hF hM => ?_)
    refine sB 17 [(21, .bool true), (22, .bool true), (23, undef), (24, undef), (25, undef), (26, undef), (27, undef), (28, undef), (29, .bool true), (30, .bool true), (31, undef), (32, undef), (33, undef), (34, undef), (35, undef), (36, undef), (37, .bool true)] hF (by kernel_rfl) fun a hF => ?_
    refine wpList_nil ?_
    refine hK6 _ _ ?_
    refine cT hF (by kernel_rfl) (by kernel_rfl) ?_
    refine wp_seq_k fun K12 hK12 => ?_
    refine wp_region_lit ?_
    refine sB 1 [(6, .int .i64 420)] hF (by kernel_rfl) fun a hF => ?_
    refine wpList_nil ?_
    refine hK12 _ _ ?_
    refine wp_ret ?_
    refine hR0 _ _ ?_
    refine ret_of hF hM (.tmp rfl (.nil)) ?_
    exact ⟨ret_int (by unfold mtE; first | omega | (unfold newC newP at *; omega)), hM.bel⟩
  ·skip
   refine wp_region_lit ?_
   refine sB 1 [(18, .pointer (some ⟨bb3, 0, none⟩))] hF (by kernel_rfl) fun a hF => ?_
   refine wl (eL 19 3 0 (v := .int .i64 la) hF hM (by kernel_rfl) rfl rfl (by kernel_rfl) (by kernel_rfl) fun a w hF hM => ?_)
   refine wl (eM 20 (v := .bool false) hF hM (by kernel_rfl) (yld_call (f := 43) (args := #[.int .i64 la, .int .i64 0, .int .i64 1099511627776]) hF (by kernel_rfl) (fun _ => by kernel_rfl) (fun w hM => in_no la 0 1099511627776 w (.inl hz3))) fun a w hF hM => ?_)
   refine sB 17 [(21, .bool true), (22, .bool true), (23, undef), (24, undef), (25, undef), (26, undef), (27, undef), (28, undef), (29, .bool true), (30, .bool true), (31, undef), (32, undef), (33, undef), (34, undef), (35, undef), (36, undef), (37, .bool true)] hF (by kernel_rfl) fun a hF => ?_
   refine wpList_nil ?_
   refine hK6 _ _ ?_
   refine cT hF (by kernel_rfl) (by kernel_rfl) ?_
   refine wp_seq_k fun K13 hK13 => ?_
   refine wp_region_lit ?_
   refine sB 1 [(6, .int .i64 420)] hF (by kernel_rfl) fun a hF => ?_
   refine wpList_nil ?_
   refine hK13 _ _ ?_
   refine wp_ret ?_
   refine hR0 _ _ ?_
   refine ret_of hF hM (.tmp rfl (.nil)) ?_
   exact ⟨ret_int (by unfold mtE; first | omega | (unfold newC newP at *; omega)), hM.bel⟩
 ·skip
  replace hF := hF.c hF (i := 16) (v := .bool true) rfl (nF hz1)
  refine cT hF (by kernel_rfl) (by kernel_rfl) ?_
  refine wp_seq_k fun K14 hK14 => ?_
  refine wp_region_lit ?_
  refine sB 2 [(17, .int .i64 (newE cb cr pb ps)), (6, .int .i64 (newE cb cr pb ps))] hF (by kernel_rfl) fun a hF => ?_
  refine wpList_nil ?_
  refine hK14 _ _ ?_
  refine wp_ret ?_
  refine hR0 _ _ ?_
  refine ret_of hF hM (.tmp rfl (.nil)) ?_
  exact ⟨ret_int (by unfold mtE; first | omega | (unfold newC newP at *; omega)), hM.bel⟩

theorem grown_w (co pe cb cr pb ps t : Int) (w0 : World) (h : 0 ≤ co ∧ co ≤ 1099511627776 ∧ 0 ≤ pe ∧ pe ≤ 1099511627776 ∧ 0 ≤ cb ∧ cb ≤ 1048576 ∧ 0 ≤ pb ∧ pb ≤ 1048576 ∧ 0 ≤ cr ∧ cr ≤ 2097152 ∧ 0 ≤ ps ∧ ps ≤ 2097152 ∧ 0 ≤ t ∧ t ≤ 1099511627776) :
    Calls Try.prog 67 #[.agg #[.int .i64 co, .int .i64 pe], .agg #[.int .i64 cb, .int .i64 cr], .agg #[.int .i64 pb, .int .i64 ps], .int .i64 t] w0 (Ret w0 (.agg #[.int .i64 (up cb cr co t), .int .i64 (up pb ps pe t)])) := by
 refine enterK 34 Try.func67 rfl rfl rfl ?_
 intro a hF Q0 hR0 hN0
 have hM := Mem.start w0
 refine wp_seq_k fun K1 hK1 => ?_
 refine wp_region_lit ?_
 refine wl (eN 4 1 (t := 100) (fun b => .pointer (some ⟨b, 0, none⟩)) #[.int .i64 co, .int .i64 pe] hF hM (by kernel_rfl) (fun _ => by kernel_rfl) fun bb1 a w hF hM => ?_)
 refine wl (eN 5 2 (t := 67) (fun b => .pointer (some ⟨b, 0, none⟩)) #[.int .i64 cb, .int .i64 cr] hF hM (by kernel_rfl) (fun _ => by kernel_rfl) fun bb2 a w hF hM => ?_)
 refine wl (eN 6 3 (t := 67) (fun b => .pointer (some ⟨b, 0, none⟩)) #[.int .i64 pb, .int .i64 ps] hF hM (by kernel_rfl) (fun _ => by kernel_rfl) fun bb3 a w hF hM => ?_)
 refine wl (eN 8 4 (t := 100) (fun b => .pointer (some ⟨b, 0, none⟩)) #[.int .i64 0, .int .i64 0] hF hM (by kernel_rfl) (fun _ => by kernel_rfl) fun bb4 a w hF hM => ?_)
 refine wpList_nil ?_
 refine hK1 _ _ ?_
 refine wp_seq_k fun K2 hK2 => ?_
 refine wp_region_lit ?_
 refine wl (eL 10 2 0 (v := .agg #[.int .i64 cb, .int .i64 cr]) hF hM (by kernel_rfl) rfl rfl (by kernel_rfl) (by kernel_rfl) fun a w hF hM => ?_)
 refine wl (eL 11 3 0 (v := .agg #[.int .i64 pb, .int .i64 ps]) hF hM (by kernel_rfl) rfl rfl (by kernel_rfl) (by kernel_rfl) fun a w hF hM => ?_)
 refine wl (eM 12 (v := .agg #[.int .i64 (cb * 1048576), .int .i64 (pb * 1048576)]) hF hM (by kernel_rfl) (yld_call (f := 51) (args := #[.agg #[.int .i64 cb, .int .i64 cr], .agg #[.int .i64 pb, .int .i64 ps]]) hF (by kernel_rfl) (fun _ => by kernel_rfl) (fun w hM => full_w cb cr pb ps w (by omega))) fun a w hF hM => ?_)
 refine wl (eN 9 5 (t := 100) (fun b => .pointer (some ⟨b, 0, none⟩)) #[.int .i64 0, .int .i64 0] hF hM (by kernel_rfl) (fun _ => by kernel_rfl) fun bb5 a w hF hM => ?_)
 refine wl (sStore (i := 5) (off := 0) (cs' := #[.int .i64 (cb * 1048576), .int .i64 (pb * 1048576)]) hF hM (by kernel_rfl) rfl rfl (by kernel_rfl) (by kernel_rfl) rfl (by kernel_rfl) fun w hM => ?_)
 refine wpList_nil ?_
 refine hK2 _ _ ?_
 refine wp_seq_k fun K3 hK3 => ?_
 refine wp_region_lit ?_
 refine sB 1 [(13, .pointer (some ⟨bb5, 0, none⟩))] hF (by kernel_rfl) fun a hF => ?_
 refine wl (eL 14 5 0 (v := .int .i64 (cb * 1048576)) hF hM (by kernel_rfl) rfl rfl (by kernel_rfl) (by kernel_rfl) fun a w hF hM => ?_)
 refine sB 1 [(15, .pointer (some ⟨bb1, 0, none⟩))] hF (by kernel_rfl) fun a hF => ?_
 refine wl (eL 16 1 0 (v := .int .i64 co) hF hM (by kernel_rfl) rfl rfl (by kernel_rfl) (by kernel_rfl) fun a w hF hM => ?_)
 refine sB 1 [(17, .pointer (some ⟨bb2, 1, none⟩))] hF (by kernel_rfl) fun a hF => ?_
 refine wl (eL 18 2 1 (v := .int .i64 cr) hF hM (by kernel_rfl) rfl rfl (by kernel_rfl) (by kernel_rfl) fun a w hF hM => ?_)
 refine sB 1 [(19, .int .i64 t)] hF (by kernel_rfl) fun a hF => ?_
 have hz1 : 0 ≤ cr * t ∧ cr * t ≤ 2305843009213693952 := mul_bd (0) (2097152) (0) (1099511627776) (by omega) (by omega) (by omega) (by omega) (by decide)
 refine wl (eP 20 (v0 := .int .i64 (IntKind.i64.wrap (cr * t))) (v := .int .i64 (cr * t)) hF (by kernel_rfl) (fun _ => by kernel_rfl) (wi (by omega)) fun a hF => ?_)
 refine wl (eP 21 (v0 := .int .i64 (IntKind.i64.wrap (co + cr * t))) (v := .int .i64 (co + cr * t)) hF (by kernel_rfl) (fun _ => by kernel_rfl) (wi (by omega)) fun a hF => ?_)
 refine wl (eP 22 (v0 := .int .i64 (if co + cr * t < cb * 1048576 then co + cr * t else cb * 1048576)) (v := .int .i64 (min (cb * 1048576) (co + cr * t))) hF (by kernel_rfl) (fun _ => by kernel_rfl) (vi (min_if _ _)) fun a hF => ?_)
 refine sB 1 [(23, .pointer (some ⟨bb5, 1, none⟩))] hF (by kernel_rfl) fun a hF => ?_
 refine wl (eL 24 5 1 (v := .int .i64 (pb * 1048576)) hF hM (by kernel_rfl) rfl rfl (by kernel_rfl) (by kernel_rfl) fun a w hF hM => ?_)
 refine sB 1 [(25, .pointer (some ⟨bb1, 1, none⟩))] hF (by kernel_rfl) fun a hF => ?_
 refine wl (eL 26 1 1 (v := .int .i64 pe) hF hM (by kernel_rfl) rfl rfl (by kernel_rfl) (by kernel_rfl) fun a w hF hM => ?_)
 refine sB 1 [(27, .pointer (some ⟨bb3, 1, none⟩))] hF (by kernel_rfl) fun a hF => ?_
 refine wl (eL 28 3 1 (v := .int .i64 ps) hF hM (by kernel_rfl) rfl rfl (by kernel_rfl) (by kernel_rfl) fun a w hF hM => ?_)
 refine sB 1 [(29, .int .i64 t)] hF (by kernel_rfl) fun a hF => ?_
 have hz2 : 0 ≤ ps * t ∧ ps * t ≤ 2305843009213693952 := mul_bd (0) (2097152) (0) (1099511627776) (by omega) (by omega) (by omega) (by omega) (by decide)
 refine wl (eP 30 (v0 := .int .i64 (IntKind.i64.wrap (ps * t))) (v := .int .i64 (ps * t)) hF (by kernel_rfl) (fun _ => by kernel_rfl) (wi (by omega)) fun a hF => ?_)
 refine wl (eP 31 (v0 := .int .i64 (IntKind.i64.wrap (pe + ps * t))) (v := .int .i64 (pe + ps * t)) hF (by kernel_rfl) (fun _ => by kernel_rfl) (wi (by omega)) fun a hF => ?_)
 refine wl (eP 32 (v0 := .int .i64 (if pe + ps * t < pb * 1048576 then pe + ps * t else pb * 1048576)) (v := .int .i64 (min (pb * 1048576) (pe + ps * t))) hF (by kernel_rfl) (fun _ => by kernel_rfl) (vi (min_if _ _)) fun a hF => ?_)
 refine sB 1 [(33, .agg #[.int .i64 (min (cb * 1048576) (co + cr * t)), .int .i64 (min (pb * 1048576) (pe + ps * t))])] hF (by kernel_rfl) fun a hF => ?_
 refine wl (sStore (i := 4) (off := 0) (cs' := #[.int .i64 (min (cb * 1048576) (co + cr * t)), .int .i64 (min (pb * 1048576) (pe + ps * t))]) hF hM (by kernel_rfl) rfl rfl (by kernel_rfl) (by kernel_rfl) rfl (by kernel_rfl) fun w hM => ?_)
 refine wpList_nil ?_
 refine hK3 _ _ ?_
 refine wp_ret ?_
 refine hR0 _ _ ?_
 refine ret_of hF hM (.cell (i := 4) rfl rfl (v := .agg #[.int .i64 (min (cb * 1048576) (co + cr * t)), .int .i64 (min (pb * 1048576) (pe + ps * t))]) (by kernel_rfl) (.nil)) ?_
 exact ⟨rfl, hM.bel⟩

theorem meterMark_w (cb cr pb ps la co pe at_ size : Int) (w0 : World) :
    Calls Try.prog 55 #[.agg #[.int .i64 cb, .int .i64 cr], .agg #[.int .i64 pb, .int .i64 ps], .agg #[.int .i64 la, .int .i64 co, .int .i64 pe], .int .i64 at_, .int .i64 size] w0 (Ret w0 (.tuple #[.int .i64 (mkCol cb cr pb ps la co pe at_ size), .agg #[.int .i64 (mkL cb cr pb ps la co pe at_ size), .int .i64 (mkC cb cr pb ps la co pe at_ size), .int .i64 (mkP cb cr pb ps la co pe at_ size)], .int .i64 (mkE cb cr pb ps la co pe at_ size)])) := by
 refine enterK 63 Try.func55 rfl rfl rfl ?_
 intro a hF Q0 hR0 hN0
 have hM := Mem.start w0
 refine wp_seq_k fun K1 hK1 => ?_
 refine wp_region_lit ?_
 refine wl (eN 5 1 (t := 67) (fun b => .pointer (some ⟨b, 0, none⟩)) #[.int .i64 cb, .int .i64 cr] hF hM (by kernel_rfl) (fun _ => by kernel_rfl) fun bb1 a w hF hM => ?_)
 refine wl (eN 6 2 (t := 67) (fun b => .pointer (some ⟨b, 0, none⟩)) #[.int .i64 pb, .int .i64 ps] hF hM (by kernel_rfl) (fun _ => by kernel_rfl) fun bb2 a w hF hM => ?_)
 refine wl (eN 7 3 (t := 80) (fun b => .pointer (some ⟨b, 0, none⟩)) #[.int .i64 la, .int .i64 co, .int .i64 pe] hF hM (by kernel_rfl) (fun _ => by kernel_rfl) fun bb3 a w hF hM => ?_)
 refine sB 1 [(10, .int .i64 0)] hF (by kernel_rfl) fun a hF => ?_
 refine wl (eN 11 4 (t := 80) (fun b => .pointer (some ⟨b, 0, none⟩)) #[.int .i64 0, .int .i64 0, .int .i64 0] hF hM (by kernel_rfl) (fun _ => by kernel_rfl) fun bb4 a w hF hM => ?_)
 refine sB 1 [(12, .int .i64 0)] hF (by kernel_rfl) fun a hF => ?_
 refine wpList_nil ?_
 refine hK1 _ _ ?_
 refine wp_seq_k fun K2 hK2 => ?_
 refine wp_seq_k fun K3 hK3 => ?_
 refine wp_region_lit ?_
 refine wl (eL 15 1 0 (v := .agg #[.int .i64 cb, .int .i64 cr]) hF hM (by kernel_rfl) rfl rfl (by kernel_rfl) (by kernel_rfl) fun a w hF hM => ?_)
 refine wl (eL 16 2 0 (v := .agg #[.int .i64 pb, .int .i64 ps]) hF hM (by kernel_rfl) rfl rfl (by kernel_rfl) (by kernel_rfl) fun a w hF hM => ?_)
 refine wl (eL 17 3 0 (v := .agg #[.int .i64 la, .int .i64 co, .int .i64 pe]) hF hM (by kernel_rfl) rfl rfl (by kernel_rfl) (by kernel_rfl) fun a w hF hM => ?_)
 refine wl (eM 18 (v := .int .i64 (mtE cb cr pb ps la co pe)) hF hM (by kernel_rfl) (yld_call (f := 32) (args := #[.agg #[.int .i64 cb, .int .i64 cr], .agg #[.int .i64 pb, .int .i64 ps], .agg #[.int .i64 la, .int .i64 co, .int .i64 pe]]) hF (by kernel_rfl) (fun _ => by kernel_rfl) (fun w hM => meterCheck_w cb cr pb ps la co pe w)) fun a w hF hM => ?_)
 refine sB 1 [(13, .int .i64 (mtE cb cr pb ps la co pe))] hF (by kernel_rfl) fun a hF => ?_
 refine wpList_nil ?_
 refine hK3 _ _ ?_
 refine wp_seq_k fun K4 hK4 => ?_
 refine wp_region_lit ?_
 refine sB 2 [(19, .int .i64 (mtE cb cr pb ps la co pe)), (20, .bool (!decide (mtE cb cr pb ps la co pe = 0)))] hF (by kernel_rfl) fun a hF => ?_
 refine wpList_nil ?_
 refine hK4 _ _ ?_
 by_cases hz1 : mtE cb cr pb ps la co pe = 0
 ·skip
  have hz2 := mtE_ok hz1
  have hz3 := hz2.1
  have hz4 := newE_ok hz3
  replace hF := hF.c hF (i := 20) (v := .bool false) rfl (nT hz1)
  refine cF hF (by kernel_rfl) (by kernel_rfl) ?_
  refine wp_skip ?_
  refine hK2 _ _ ?_
  refine wp_seq_k fun K5 hK5 => ?_
  refine wp_seq_k fun K6 hK6 => ?_
  by_cases hz5 : at_ < la
  ·skip
   refine wp_region_lit ?_
   refine sB 2 [(23, .int .i64 at_), (24, .pointer (some ⟨bb3, 0, none⟩))] hF (by kernel_rfl) fun a hF => ?_
   refine wl (eL 25 3 0 (v := .int .i64 la) hF hM (by kernel_rfl) rfl rfl (by kernel_rfl) (by kernel_rfl) fun a w hF hM => ?_)
   refine wl (eP 26 (v0 := .bool (decide (at_ < la))) (v := .bool true) hF (by kernel_rfl) (fun _ => by kernel_rfl) (bT hz5) fun a hF => ?_)
   refine sB 12 [(27, .bool true), (28, undef), (29, undef), (30, .bool true), (31, .bool true), (32, undef), (33, undef), (34, .bool true), (35, .bool true), (36, undef), (37, undef), (38, .bool true)] hF (by kernel_rfl) fun a hF => ?_
   refine wpList_nil ?_
   refine hK6 _ _ ?_
   refine cT hF (by kernel_rfl) (by kernel_rfl) ?_
   refine wp_seq_k fun K7 hK7 => ?_
   refine wp_region_lit ?_
   refine sB 2 [(39, .agg #[.int .i64 0, .int .i64 0, .int .i64 0]), (10, .int .i64 0)] hF (by kernel_rfl) fun a hF => ?_
   refine wl (sStore (i := 4) (off := 0) (cs' := #[.int .i64 0, .int .i64 0, .int .i64 0]) hF hM (by kernel_rfl) rfl rfl (by kernel_rfl) (by kernel_rfl) rfl (by kernel_rfl) fun w hM => ?_)
   refine sB 1 [(12, .int .i64 2)] hF (by kernel_rfl) fun a hF => ?_
   refine wpList_nil ?_
   refine hK7 _ _ ?_
   refine wp_ret ?_
   refine hR0 _ _ ?_
   refine ret_of hF hM (.tmp rfl (.cell (i := 4) rfl rfl (v := .agg #[.int .i64 0, .int .i64 0, .int .i64 0]) (by kernel_rfl) (.tmp rfl (.nil)))) ?_
   have he : mkE cb cr pb ps la co pe at_ size = 2 := by unfold mkE; omega
   have hn : ¬ mkE cb cr pb ps la co pe at_ size = 0 := by omega
   refine ⟨ret_eq ?_, hM.bel⟩
   unfold mkCol mkL mkC mkP; rw [if_neg hn, if_neg hn, if_neg hn, if_neg hn, he]; rfl
  ·skip
   by_cases hz6 : 1099511627776 < at_
   ·skip
    refine wp_region_lit ?_
    refine sB 2 [(23, .int .i64 at_), (24, .pointer (some ⟨bb3, 0, none⟩))] hF (by kernel_rfl) fun a hF => ?_
    refine wl (eL 25 3 0 (v := .int .i64 la) hF hM (by kernel_rfl) rfl rfl (by kernel_rfl) (by kernel_rfl) fun a w hF hM => ?_)
    refine wl (eP 26 (v0 := .bool (decide (at_ < la))) (v := .bool false) hF (by kernel_rfl) (fun _ => by kernel_rfl) (bF hz5) fun a hF => ?_)
    refine sB 2 [(27, .bool false), (28, .int .i64 at_)] hF (by kernel_rfl) fun a hF => ?_
    refine wl (eP 29 (v0 := .bool (decide (1099511627776 < at_))) (v := .bool true) hF (by kernel_rfl) (fun _ => by kernel_rfl) (bT hz6) fun a hF => ?_)
    refine sB 9 [(30, .bool true), (31, .bool true), (32, undef), (33, undef), (34, .bool true), (35, .bool true), (36, undef), (37, undef), (38, .bool true)] hF (by kernel_rfl) fun a hF => ?_
    refine wpList_nil ?_
    refine hK6 _ _ ?_
    refine cT hF (by kernel_rfl) (by kernel_rfl) ?_
    refine wp_seq_k fun K8 hK8 => ?_
    refine wp_region_lit ?_
    refine sB 2 [(39, .agg #[.int .i64 0, .int .i64 0, .int .i64 0]), (10, .int .i64 0)] hF (by kernel_rfl) fun a hF => ?_
    refine wl (sStore (i := 4) (off := 0) (cs' := #[.int .i64 0, .int .i64 0, .int .i64 0]) hF hM (by kernel_rfl) rfl rfl (by kernel_rfl) (by kernel_rfl) rfl (by kernel_rfl) fun w hM => ?_)
    refine sB 1 [(12, .int .i64 2)] hF (by kernel_rfl) fun a hF => ?_
    refine wpList_nil ?_
    refine hK8 _ _ ?_
    refine wp_ret ?_
    refine hR0 _ _ ?_
    refine ret_of hF hM (.tmp rfl (.cell (i := 4) rfl rfl (v := .agg #[.int .i64 0, .int .i64 0, .int .i64 0]) (by kernel_rfl) (.tmp rfl (.nil)))) ?_
    have he : mkE cb cr pb ps la co pe at_ size = 2 := by unfold mkE; omega
    have hn : ¬ mkE cb cr pb ps la co pe at_ size = 0 := by omega
    refine ⟨ret_eq ?_, hM.bel⟩
    unfold mkCol mkL mkC mkP; rw [if_neg hn, if_neg hn, if_neg hn, if_neg hn, he]; rfl
   ·skip
    by_cases hz7 : size < 1
    ·skip
     refine wp_region_lit ?_
     refine sB 2 [(23, .int .i64 at_), (24, .pointer (some ⟨bb3, 0, none⟩))] hF (by kernel_rfl) fun a hF => ?_
     refine wl (eL 25 3 0 (v := .int .i64 la) hF hM (by kernel_rfl) rfl rfl (by kernel_rfl) (by kernel_rfl) fun a w hF hM => ?_)
     refine wl (eP 26 (v0 := .bool (decide (at_ < la))) (v := .bool false) hF (by kernel_rfl) (fun _ => by kernel_rfl) (bF hz5) fun a hF => ?_)
     refine sB 2 [(27, .bool false), (28, .int .i64 at_)] hF (by kernel_rfl) fun a hF => ?_
     refine wl (eP 29 (v0 := .bool (decide (1099511627776 < at_))) (v := .bool false) hF (by kernel_rfl) (fun _ => by kernel_rfl) (bF hz6) fun a hF => ?_)
     refine sB 3 [(30, .bool false), (31, .bool false), (32, .int .i64 size)] hF (by kernel_rfl) fun a hF => ?_
     refine wl (eP 33 (v0 := .bool (decide (size < 1))) (v := .bool true) hF (by kernel_rfl) (fun _ => by kernel_rfl) (bT hz7) fun a hF => ?_)
     refine sB 5 [(34, .bool true), (35, .bool true), (36, undef), (37, undef), (38, .bool true)] hF (by kernel_rfl) fun a hF => ?_
     refine wpList_nil ?_
     refine hK6 _ _ ?_
     refine cT hF (by kernel_rfl) (by kernel_rfl) ?_
     refine wp_seq_k fun K9 hK9 => ?_
     refine wp_region_lit ?_
     refine sB 2 [(39, .agg #[.int .i64 0, .int .i64 0, .int .i64 0]), (10, .int .i64 0)] hF (by kernel_rfl) fun a hF => ?_
     refine wl (sStore (i := 4) (off := 0) (cs' := #[.int .i64 0, .int .i64 0, .int .i64 0]) hF hM (by kernel_rfl) rfl rfl (by kernel_rfl) (by kernel_rfl) rfl (by kernel_rfl) fun w hM => ?_)
     refine sB 1 [(12, .int .i64 2)] hF (by kernel_rfl) fun a hF => ?_
     refine wpList_nil ?_
     refine hK9 _ _ ?_
     refine wp_ret ?_
     refine hR0 _ _ ?_
     refine ret_of hF hM (.tmp rfl (.cell (i := 4) rfl rfl (v := .agg #[.int .i64 0, .int .i64 0, .int .i64 0]) (by kernel_rfl) (.tmp rfl (.nil)))) ?_
     have he : mkE cb cr pb ps la co pe at_ size = 2 := by unfold mkE; omega
     have hn : ¬ mkE cb cr pb ps la co pe at_ size = 0 := by omega
     refine ⟨ret_eq ?_, hM.bel⟩
     unfold mkCol mkL mkC mkP; rw [if_neg hn, if_neg hn, if_neg hn, if_neg hn, he]; rfl
    ·skip
     refine wp_region_lit ?_
     refine sB 2 [(23, .int .i64 at_), (24, .pointer (some ⟨bb3, 0, none⟩))] hF (by kernel_rfl) fun a hF => ?_
     refine wl (eL 25 3 0 (v := .int .i64 la) hF hM (by kernel_rfl) rfl rfl (by kernel_rfl) (by kernel_rfl) fun a w hF hM => ?_)
     refine wl (eP 26 (v0 := .bool (decide (at_ < la))) (v := .bool false) hF (by kernel_rfl) (fun _ => by kernel_rfl) (bF hz5) fun a hF => ?_)
     refine sB 2 [(27, .bool false), (28, .int .i64 at_)] hF (by kernel_rfl) fun a hF => ?_
     refine wl (eP 29 (v0 := .bool (decide (1099511627776 < at_))) (v := .bool false) hF (by kernel_rfl) (fun _ => by kernel_rfl) (bF hz6) fun a hF => ?_)
     refine sB 3 [(30, .bool false), (31, .bool false), (32, .int .i64 size)] hF (by kernel_rfl) fun a hF => ?_
     refine wl (eP 33 (v0 := .bool (decide (size < 1))) (v := .bool false) hF (by kernel_rfl) (fun _ => by kernel_rfl) (bF hz7) fun a hF => ?_)
     refine sB 5 [(34, .bool false), (35, .bool false), (36, .int .i64 size), (37, .bool (decide (1048576 < size))), (38, .bool (decide (1048576 < size)))] hF (by kernel_rfl) fun a hF => ?_
     refine wpList_nil ?_
     refine hK6 _ _ ?_
     by_cases hz8 : 1048576 < size
     ·skip
      replace hF := hF.c hF (i := 37) (v := .bool true) rfl (bT hz8)
      replace hF := hF.c hF (i := 38) (v := .bool true) rfl (bT hz8)
      refine cT hF (by kernel_rfl) (by kernel_rfl) ?_
      refine wp_seq_k fun K10 hK10 => ?_
      refine wp_region_lit ?_
      refine sB 2 [(39, .agg #[.int .i64 0, .int .i64 0, .int .i64 0]), (10, .int .i64 0)] hF (by kernel_rfl) fun a hF => ?_
      refine wl (sStore (i := 4) (off := 0) (cs' := #[.int .i64 0, .int .i64 0, .int .i64 0]) hF hM (by kernel_rfl) rfl rfl (by kernel_rfl) (by kernel_rfl) rfl (by kernel_rfl) fun w hM => ?_)
      refine sB 1 [(12, .int .i64 2)] hF (by kernel_rfl) fun a hF => ?_
      refine wpList_nil ?_
      refine hK10 _ _ ?_
      refine wp_ret ?_
      refine hR0 _ _ ?_
      refine ret_of hF hM (.tmp rfl (.cell (i := 4) rfl rfl (v := .agg #[.int .i64 0, .int .i64 0, .int .i64 0]) (by kernel_rfl) (.tmp rfl (.nil)))) ?_
      have he : mkE cb cr pb ps la co pe at_ size = 2 := by unfold mkE; omega
      have hn : ¬ mkE cb cr pb ps la co pe at_ size = 0 := by omega
      refine ⟨ret_eq ?_, hM.bel⟩
      unfold mkCol mkL mkC mkP; rw [if_neg hn, if_neg hn, if_neg hn, if_neg hn, he]; rfl
     ·skip
      replace hF := hF.c hF (i := 37) (v := .bool false) rfl (bF hz8)
      replace hF := hF.c hF (i := 38) (v := .bool false) rfl (bF hz8)
      refine cF hF (by kernel_rfl) (by kernel_rfl) ?_
      refine wp_skip ?_
      refine hK5 _ _ ?_
      refine wp_seq_k fun K11 hK11 => ?_
      refine wp_region_lit ?_
      refine sB 1 [(40, .pointer (some ⟨bb3, 1, none⟩))] hF (by kernel_rfl) fun a hF => ?_
      refine wl (eL 41 3 1 (v := .int .i64 co) hF hM (by kernel_rfl) rfl rfl (by kernel_rfl) (by kernel_rfl) fun a w hF hM => ?_)
      refine sB 1 [(42, .pointer (some ⟨bb3, 2, none⟩))] hF (by kernel_rfl) fun a hF => ?_
      refine wl (eL 43 3 2 (v := .int .i64 pe) hF hM (by kernel_rfl) rfl rfl (by kernel_rfl) (by kernel_rfl) fun a w hF hM => ?_)
      refine sB 2 [(44, .agg #[.int .i64 co, .int .i64 pe]), (45, .pointer (some ⟨bb3, 0, none⟩))] hF (by kernel_rfl) fun a hF => ?_
      refine wl (eL 46 3 0 (v := .int .i64 la) hF hM (by kernel_rfl) rfl rfl (by kernel_rfl) (by kernel_rfl) fun a w hF hM => ?_)
      refine wl (eL 47 1 0 (v := .agg #[.int .i64 cb, .int .i64 cr]) hF hM (by kernel_rfl) rfl rfl (by kernel_rfl) (by kernel_rfl) fun a w hF hM => ?_)
      refine wl (eL 48 2 0 (v := .agg #[.int .i64 pb, .int .i64 ps]) hF hM (by kernel_rfl) rfl rfl (by kernel_rfl) (by kernel_rfl) fun a w hF hM => ?_)
      refine sB 1 [(49, .agg #[.int .i64 co, .int .i64 pe, .int .i64 la, .int .i64 cb, .int .i64 cr, .int .i64 pb, .int .i64 ps])] hF (by kernel_rfl) fun a hF => ?_
      refine wl (eN 14 5 (t := 114) (fun b => .pointer (some ⟨b, 0, none⟩)) #[.int .i64 0, .int .i64 0, .int .i64 0, .int .i64 0, .int .i64 0, .int .i64 0, .int .i64 0] hF hM (by kernel_rfl) (fun _ => by kernel_rfl) fun bb5 a w hF hM => ?_)
      refine wl (sStore (i := 5) (off := 0) (cs' := #[.int .i64 co, .int .i64 pe, .int .i64 la, .int .i64 cb, .int .i64 cr, .int .i64 pb, .int .i64 ps]) hF hM (by kernel_rfl) rfl rfl (by kernel_rfl) (by kernel_rfl) rfl (by kernel_rfl) fun w hM => ?_)
      refine wpList_nil ?_
      refine hK11 _ _ ?_
      refine wp_seq_k fun K12 hK12 => ?_
      refine wp_region_lit ?_
      refine sB 2 [(50, .int .i64 at_), (51, .int .i64 size)] hF (by kernel_rfl) fun a hF => ?_
      refine wl (sC (f := 65) (args := #[.pointer (some ⟨bb5, 0, none⟩), .int .i64 at_, .int .i64 size]) hF (by kernel_rfl) rfl (by decide) (by kernel_rfl) (fun _ => by kernel_rfl) ?_)
      refine enterK 82 Try.func65 rfl rfl rfl ?_
      intro a1 hF1 QR13 hR13 hNR13
      refine wp_seq_k fun K14 hK14 => ?_
      refine wp_region_lit ?_
      refine sB 1 [(6, .int .i64 0)] hF1 (by kernel_rfl) fun a1 hF1 => ?_
      refine wpList_nil ?_
      refine hK14 _ _ ?_
      refine wp_seq_k fun K15 hK15 => ?_
      refine rT 22 (by kernel_rfl) (by kernel_rfl) hM.drew ?_
      refine eQ 9 (v0 := .pointer (some ⟨bb5, 0, none⟩)) (v := .pointer (some ⟨bb5, 0, none⟩)) hF1 (by kernel_rfl) (fun _ => by kernel_rfl) rfl fun a1 hF1 => ?_
      refine eQ 10 (v0 := .pointer (some ⟨bb5, 0, none⟩)) (v := .pointer (some ⟨bb5, 0, none⟩)) hF1 (by kernel_rfl) (fun _ => by kernel_rfl) rfl fun a1 hF1 => ?_
      refine eQ 11 (v0 := .pointer (some ⟨bb5, 0, none⟩)) (v := .pointer (some ⟨bb5, 0, none⟩)) hF1 (by kernel_rfl) (fun _ => by kernel_rfl) rfl fun a1 hF1 => ?_
      refine eQ 12 (v0 := .pointer (some ⟨bb5, 0, none⟩)) (v := .pointer (some ⟨bb5, 0, none⟩)) hF1 (by kernel_rfl) (fun _ => by kernel_rfl) rfl fun a1 hF1 => ?_
      refine eQL 13 5 0 (v := .agg #[.int .i64 co, .int .i64 pe]) hF1 (by kernel_rfl) rfl rfl (by kernel_rfl) (by kernel_rfl) fun a1 hF1 => ?_
      refine eQ 14 (v0 := .pointer (some ⟨bb5, 0, none⟩)) (v := .pointer (some ⟨bb5, 0, none⟩)) hF1 (by kernel_rfl) (fun _ => by kernel_rfl) rfl fun a1 hF1 => ?_
      refine eQ 15 (v0 := .pointer (some ⟨bb5, 0, none⟩)) (v := .pointer (some ⟨bb5, 0, none⟩)) hF1 (by kernel_rfl) (fun _ => by kernel_rfl) rfl fun a1 hF1 => ?_
      refine eQ 16 (v0 := .pointer (some ⟨bb5, 3, none⟩)) (v := .pointer (some ⟨bb5, 3, none⟩)) hF1 (by kernel_rfl) (fun _ => by kernel_rfl) rfl fun a1 hF1 => ?_
      refine eQL 17 5 3 (v := .agg #[.int .i64 cb, .int .i64 cr]) hF1 (by kernel_rfl) rfl rfl (by kernel_rfl) (by kernel_rfl) fun a1 hF1 => ?_
      refine eQ 18 (v0 := .pointer (some ⟨bb5, 0, none⟩)) (v := .pointer (some ⟨bb5, 0, none⟩)) hF1 (by kernel_rfl) (fun _ => by kernel_rfl) rfl fun a1 hF1 => ?_
      refine eQ 19 (v0 := .pointer (some ⟨bb5, 0, none⟩)) (v := .pointer (some ⟨bb5, 0, none⟩)) hF1 (by kernel_rfl) (fun _ => by kernel_rfl) rfl fun a1 hF1 => ?_
      refine eQ 20 (v0 := .pointer (some ⟨bb5, 5, none⟩)) (v := .pointer (some ⟨bb5, 5, none⟩)) hF1 (by kernel_rfl) (fun _ => by kernel_rfl) rfl fun a1 hF1 => ?_
      refine eQL 21 5 5 (v := .agg #[.int .i64 pb, .int .i64 ps]) hF1 (by kernel_rfl) rfl rfl (by kernel_rfl) (by kernel_rfl) fun a1 hF1 => ?_
      refine eQ 22 (v0 := .int .i64 at_) (v := .int .i64 at_) hF1 (by kernel_rfl) (fun _ => by kernel_rfl) rfl fun a1 hF1 => ?_
      refine eQ 23 (v0 := .pointer (some ⟨bb5, 0, none⟩)) (v := .pointer (some ⟨bb5, 0, none⟩)) hF1 (by kernel_rfl) (fun _ => by kernel_rfl) rfl fun a1 hF1 => ?_
      refine eQ 24 (v0 := .pointer (some ⟨bb5, 0, none⟩)) (v := .pointer (some ⟨bb5, 0, none⟩)) hF1 (by kernel_rfl) (fun _ => by kernel_rfl) rfl fun a1 hF1 => ?_
      refine eQ 25 (v0 := .pointer (some ⟨bb5, 2, none⟩)) (v := .pointer (some ⟨bb5, 2, none⟩)) hF1 (by kernel_rfl) (fun _ => by kernel_rfl) rfl fun a1 hF1 => ?_
      refine eQL 26 5 2 (v := .int .i64 la) hF1 (by kernel_rfl) rfl rfl (by kernel_rfl) (by kernel_rfl) fun a1 hF1 => ?_
      refine eQ 27 (v0 := .int .i64 (IntKind.i64.wrap (at_ - la))) (v := .int .i64 (at_ - la)) hF1 (by kernel_rfl) (fun _ => by kernel_rfl) (wi (by omega)) fun a1 hF1 => ?_
      refine eQ2 28 (v := .agg #[.int .i64 (up cb cr co (at_ - la)), .int .i64 (up pb ps pe (at_ - la))]) hF1 (by kernel_rfl) (yld_call (f := 67) (args := #[.agg #[.int .i64 co, .int .i64 pe], .agg #[.int .i64 cb, .int .i64 cr], .agg #[.int .i64 pb, .int .i64 ps], .int .i64 (at_ - la)]) hF1 (by kernel_rfl) (fun _ => by kernel_rfl) (fun w hM => grown_w co pe cb cr pb ps (at_ - la) w (by omega))) fun a1 hF1 => ?_
      have := up_bd (b := cb) (r := cr) (n := co) (t := at_ - la) (by omega) (by omega) (by omega) (by omega)
      have := up_bd (b := pb) (r := ps) (n := pe) (t := at_ - la) (by omega) (by omega) (by omega) (by omega)
      refine eQ 29 (v0 := .pointer (some ⟨bb5, 0, none⟩)) (v := .pointer (some ⟨bb5, 0, none⟩)) hF1 (by kernel_rfl) (fun _ => by kernel_rfl) rfl fun a1 hF1 => ?_
      refine eQ 30 (v0 := .pointer (some ⟨bb5, 0, none⟩)) (v := .pointer (some ⟨bb5, 0, none⟩)) hF1 (by kernel_rfl) (fun _ => by kernel_rfl) rfl fun a1 hF1 => ?_
      refine wpQuiet_nil ?_
      intro w hM
      refine wl (sStore (i := 5) (off := 0) (cs' := #[.int .i64 (up cb cr co (at_ - la)), .int .i64 (up pb ps pe (at_ - la)), .int .i64 la, .int .i64 cb, .int .i64 cr, .int .i64 pb, .int .i64 ps]) hF1 hM (by kernel_rfl) rfl rfl (by kernel_rfl) (by kernel_rfl) rfl (by kernel_rfl) fun w hM => ?_)
      refine wpList_nil ?_
      refine hK15 _ _ ?_
      refine wp_seq_k fun K16 hK16 => ?_
      refine wp_region_lit ?_
      refine sB 4 [(31, .pointer (some ⟨bb5, 0, none⟩)), (32, .int .i64 at_), (33, .pointer (some ⟨bb5, 0, none⟩)), (34, .pointer (some ⟨bb5, 2, none⟩))] hF1 (by kernel_rfl) fun a1 hF1 => ?_
      refine wl (sStore (i := 5) (off := 2) (cs' := #[.int .i64 (up cb cr co (at_ - la)), .int .i64 (up pb ps pe (at_ - la)), .int .i64 at_, .int .i64 cb, .int .i64 cr, .int .i64 pb, .int .i64 ps]) hF1 hM (by kernel_rfl) rfl rfl (by kernel_rfl) (by kernel_rfl) rfl (by kernel_rfl) fun w hM => ?_)
      refine wpList_nil ?_
      refine hK16 _ _ ?_
      refine wp_seq_k fun K17 hK17 => ?_
      refine wp_region_lit ?_
      refine sB 1 [(35, .int .i64 size)] hF1 (by kernel_rfl) fun a1 hF1 => ?_
      refine wl (eP 36 (v0 := .int .i64 (IntKind.i64.wrap (size * 1048576))) (v := .int .i64 (size * 1048576)) hF1 (by kernel_rfl) (fun _ => by kernel_rfl) (wi (by omega)) fun a1 hF1 => ?_)
      refine sB 1 [(7, .int .i64 (size * 1048576))] hF1 (by kernel_rfl) fun a1 hF1 => ?_
      refine wpList_nil ?_
      refine hK17 _ _ ?_
      refine wp_seq_k fun K18 hK18 => ?_
      refine wp_region_lit ?_
      refine sB 1 [(8, .int .i64 0)] hF1 (by kernel_rfl) fun a1 hF1 => ?_
      refine wpList_nil ?_
      refine hK18 _ _ ?_
      refine wp_seq_k fun K19 hK19 => ?_
      refine wp_block ?_
      refine wp_seq_k fun K20 hK20 => ?_
      refine wp_block ?_
      refine wp_seq_k fun K21 hK21 => ?_
      refine wp_block ?_
      refine wp_seq_k fun K22 hK22 => ?_
      refine wp_seq_k fun K23 hK23 => ?_
      refine wp_seq_k fun K24 hK24 => ?_
      refine wp_region_lit ?_
      refine sB 4 [(38, .pointer (some ⟨bb5, 0, none⟩)), (39, .pointer (some ⟨bb5, 0, none⟩)), (40, .pointer (some ⟨bb5, 0, none⟩)), (41, .pointer (some ⟨bb5, 1, none⟩))] hF1 (by kernel_rfl) fun a1 hF1 => ?_
      refine wl (eL 42 5 1 (v := .int .i64 (up pb ps pe (at_ - la))) hF1 hM (by kernel_rfl) rfl rfl (by kernel_rfl) (by kernel_rfl) fun a1 w hF1 hM => ?_)
      refine sB 3 [(43, .int .i64 (size * 1048576)), (44, .bool (decide (up pb ps pe (at_ - la) < size * 1048576))), (37, .bool (decide (up pb ps pe (at_ - la) < size * 1048576)))] hF1 (by kernel_rfl) fun a1 hF1 => ?_
      refine wpList_nil ?_
      refine hK24 _ _ ?_
      by_cases hz9 : up pb ps pe (at_ - la) < size * 1048576
      ·skip
       replace hF1 := hF1.c hF1 (i := 37) (v := .bool true) rfl (bT hz9)
       replace hF1 := hF1.c hF1 (i := 44) (v := .bool true) rfl (bT hz9)
       refine cT hF1 (by kernel_rfl) (by kernel_rfl) ?_
       refine wp_exit ?_
       refine hK21 _ _ ?_
       refine wp_region_lit ?_
       refine sB 1 [(53, .int .i64 0)] hF1 (by kernel_rfl) fun a1 hF1 => ?_
       refine wl (eP 54 (v0 := .int .i64 (IntKind.i64.wrap (0 + 1))) (v := .int .i64 1) hF1 (by kernel_rfl) (fun _ => by kernel_rfl) (vi (by decide)) fun a1 hF1 => ?_)
       refine sB 1 [(8, .int .i64 1)] hF1 (by kernel_rfl) fun a1 hF1 => ?_
       refine wpList_nil ?_
       refine hK20 _ _ ?_
       refine wp_seq_k fun K25 hK25 => ?_
       refine wp_region_lit ?_
       refine sB 1 [(55, .int .i64 1)] hF1 (by kernel_rfl) fun a1 hF1 => ?_
       refine wl (eP 56 (v0 := .int .i64 (IntKind.i64.wrap (1 + 1))) (v := .int .i64 2) hF1 (by kernel_rfl) (fun _ => by kernel_rfl) (vi (by decide)) fun a1 hF1 => ?_)
       refine sB 1 [(8, .int .i64 2)] hF1 (by kernel_rfl) fun a1 hF1 => ?_
       refine wpList_nil ?_
       refine hK25 _ _ ?_
       refine wp_exit ?_
       refine hK19 _ _ ?_
       refine wp_seq_k fun K26 hK26 => ?_
       refine wp_seq_k fun K27 hK27 => ?_
       refine wp_region_lit ?_
       refine sB 1 [(57, .int .i64 2)] hF1 (by kernel_rfl) fun a1 hF1 => ?_
       refine wl (eP 58 (v0 := .bool (!decide (2 = 2))) (v := .bool false) hF1 (by kernel_rfl) (fun _ => by kernel_rfl) (nT (by omega)) fun a1 hF1 => ?_)
       refine wpList_nil ?_
       refine hK27 _ _ ?_
       refine cF hF1 (by kernel_rfl) (by kernel_rfl) ?_
       refine wp_skip ?_
       refine hK26 _ _ ?_
       refine wp_seq_k fun K28 hK28 => ?_
       refine wp_seq_k fun K29 hK29 => ?_
       refine wp_region_lit ?_
       refine sB 1 [(69, .int .i64 2)] hF1 (by kernel_rfl) fun a1 hF1 => ?_
       refine wl (eP 70 (v0 := .bool (decide (2 = 0))) (v := .bool false) hF1 (by kernel_rfl) (fun _ => by kernel_rfl) (bF (by omega)) fun a1 hF1 => ?_)
       refine wpList_nil ?_
       refine hK29 _ _ ?_
       refine cF hF1 (by kernel_rfl) (by kernel_rfl) ?_
       refine wp_skip ?_
       refine hK28 _ _ ?_
       refine wp_seq_k fun K30 hK30 => ?_
       refine wp_region_lit ?_
       refine sB 2 [(81, .int .i64 2), (6, .int .i64 2)] hF1 (by kernel_rfl) fun a1 hF1 => ?_
       refine wpList_nil ?_
       refine hK30 _ _ ?_
       refine wp_ret ?_
       refine hR13 _ _ ?_
       refine ret_of hF1 hM (.tmp rfl (.nil)) ⟨_, rfl, ?_⟩
       intro a hF
       refine sB 1 [(10, .int .i64 2)] hF (by kernel_rfl) fun a hF => ?_
       refine wpList_nil ?_
       refine hK12 _ _ ?_
       refine wp_seq_k fun K31 hK31 => ?_
       refine rT 11 (by kernel_rfl) (by kernel_rfl) hM.drew ?_
       refine eQ 53 (v0 := .int .i64 2) (v := .int .i64 2) hF (by kernel_rfl) (fun _ => by kernel_rfl) rfl fun a hF => ?_
       refine eQ 54 (v0 := .pointer (some ⟨bb5, 2, none⟩)) (v := .pointer (some ⟨bb5, 2, none⟩)) hF (by kernel_rfl) (fun _ => by kernel_rfl) rfl fun a hF => ?_
       refine eQL 55 5 2 (v := .int .i64 at_) hF (by kernel_rfl) rfl rfl (by kernel_rfl) (by kernel_rfl) fun a hF => ?_
       refine eQ 56 (v0 := .pointer (some ⟨bb5, 0, none⟩)) (v := .pointer (some ⟨bb5, 0, none⟩)) hF (by kernel_rfl) (fun _ => by kernel_rfl) rfl fun a hF => ?_
       refine eQ 57 (v0 := .pointer (some ⟨bb5, 0, none⟩)) (v := .pointer (some ⟨bb5, 0, none⟩)) hF (by kernel_rfl) (fun _ => by kernel_rfl) rfl fun a hF => ?_
       refine eQL 58 5 0 (v := .int .i64 (up cb cr co (at_ - la))) hF (by kernel_rfl) rfl rfl (by kernel_rfl) (by kernel_rfl) fun a hF => ?_
       refine eQ 59 (v0 := .pointer (some ⟨bb5, 0, none⟩)) (v := .pointer (some ⟨bb5, 0, none⟩)) hF (by kernel_rfl) (fun _ => by kernel_rfl) rfl fun a hF => ?_
       refine eQ 60 (v0 := .pointer (some ⟨bb5, 1, none⟩)) (v := .pointer (some ⟨bb5, 1, none⟩)) hF (by kernel_rfl) (fun _ => by kernel_rfl) rfl fun a hF => ?_
       refine eQL 61 5 1 (v := .int .i64 (up pb ps pe (at_ - la))) hF (by kernel_rfl) rfl rfl (by kernel_rfl) (by kernel_rfl) fun a hF => ?_
       refine eQ 62 (v0 := .agg #[.int .i64 at_, .int .i64 (up cb cr co (at_ - la)), .int .i64 (up pb ps pe (at_ - la))]) (v := .agg #[.int .i64 at_, .int .i64 (up cb cr co (at_ - la)), .int .i64 (up pb ps pe (at_ - la))]) hF (by kernel_rfl) (fun _ => by kernel_rfl) rfl fun a hF => ?_
       refine eQ 10 (v0 := .int .i64 2) (v := .int .i64 2) hF (by kernel_rfl) (fun _ => by kernel_rfl) rfl fun a hF => ?_
       refine wpQuiet_nil ?_
       intro w hM
       refine wl (sStore (i := 4) (off := 0) (cs' := #[.int .i64 at_, .int .i64 (up cb cr co (at_ - la)), .int .i64 (up pb ps pe (at_ - la))]) hF hM (by kernel_rfl) rfl rfl (by kernel_rfl) (by kernel_rfl) rfl (by kernel_rfl) fun w hM => ?_)
       refine sB 1 [(12, .int .i64 0)] hF (by kernel_rfl) fun a hF => ?_
       refine wpList_nil ?_
       refine hK31 _ _ ?_
       refine wp_ret ?_
       refine hR0 _ _ ?_
       refine ret_of hF hM (.tmp rfl (.cell (i := 4) rfl rfl (v := .agg #[.int .i64 at_, .int .i64 (up cb cr co (at_ - la)), .int .i64 (up pb ps pe (at_ - la))]) (by kernel_rfl) (.tmp rfl (.nil)))) ?_
       have he : mkE cb cr pb ps la co pe at_ size = 0 := by unfold mkE; omega
       have hcol : mkCol cb cr pb ps la co pe at_ size = 2 := by unfold mkCol colr; rw [if_pos he]; simp only [up] at *; omega
       refine ⟨ret_eq ?_, hM.bel⟩
       rw [hcol, he]; unfold mkL mkC mkP; rw [if_pos he, if_pos he, if_pos he, hcol]; rfl
      ·skip
       replace hF1 := hF1.c hF1 (i := 37) (v := .bool false) rfl (bF hz9)
       replace hF1 := hF1.c hF1 (i := 44) (v := .bool false) rfl (bF hz9)
       refine cF hF1 (by kernel_rfl) (by kernel_rfl) ?_
       refine wp_skip ?_
       refine hK23 _ _ ?_
       refine wp_seq_k fun K32 hK32 => ?_
       refine wp_region_lit ?_
       refine sB 4 [(46, .pointer (some ⟨bb5, 0, none⟩)), (47, .pointer (some ⟨bb5, 0, none⟩)), (48, .pointer (some ⟨bb5, 0, none⟩)), (49, .pointer (some ⟨bb5, 0, none⟩))] hF1 (by kernel_rfl) fun a1 hF1 => ?_
       refine wl (eL 50 5 0 (v := .int .i64 (up cb cr co (at_ - la))) hF1 hM (by kernel_rfl) rfl rfl (by kernel_rfl) (by kernel_rfl) fun a1 w hF1 hM => ?_)
       refine sB 3 [(51, .int .i64 (size * 1048576)), (52, .bool (decide (up cb cr co (at_ - la) < size * 1048576))), (45, .bool (decide (up cb cr co (at_ - la) < size * 1048576)))] hF1 (by kernel_rfl) fun a1 hF1 => ?_
       refine wpList_nil ?_
       refine hK32 _ _ ?_
       by_cases hz10 : up cb cr co (at_ - la) < size * 1048576
       ·skip
        replace hF1 := hF1.c hF1 (i := 45) (v := .bool true) rfl (bT hz10)
        replace hF1 := hF1.c hF1 (i := 52) (v := .bool true) rfl (bT hz10)
        refine cT hF1 (by kernel_rfl) (by kernel_rfl) ?_
        refine wp_exit ?_
        refine hK20 _ _ ?_
        refine wp_seq_k fun K33 hK33 => ?_
        refine wp_region_lit ?_
        refine sB 1 [(55, .int .i64 0)] hF1 (by kernel_rfl) fun a1 hF1 => ?_
        refine wl (eP 56 (v0 := .int .i64 (IntKind.i64.wrap (0 + 1))) (v := .int .i64 1) hF1 (by kernel_rfl) (fun _ => by kernel_rfl) (vi (by decide)) fun a1 hF1 => ?_)
        refine sB 1 [(8, .int .i64 1)] hF1 (by kernel_rfl) fun a1 hF1 => ?_
        refine wpList_nil ?_
        refine hK33 _ _ ?_
        refine wp_exit ?_
        refine hK19 _ _ ?_
        refine wp_seq_k fun K34 hK34 => ?_
        refine wp_seq_k fun K35 hK35 => ?_
        refine wp_region_lit ?_
        refine sB 1 [(57, .int .i64 1)] hF1 (by kernel_rfl) fun a1 hF1 => ?_
        refine wl (eP 58 (v0 := .bool (!decide (1 = 2))) (v := .bool true) hF1 (by kernel_rfl) (fun _ => by kernel_rfl) (nF (by omega)) fun a1 hF1 => ?_)
        refine wpList_nil ?_
        refine hK35 _ _ ?_
        refine cT hF1 (by kernel_rfl) (by kernel_rfl) ?_
        refine wp_region_lit ?_
        refine sB 4 [(59, .pointer (some ⟨bb5, 0, none⟩)), (60, .pointer (some ⟨bb5, 0, none⟩)), (61, .pointer (some ⟨bb5, 0, none⟩)), (62, .pointer (some ⟨bb5, 1, none⟩))] hF1 (by kernel_rfl) fun a1 hF1 => ?_
        refine wl (eL 63 5 1 (v := .int .i64 (up pb ps pe (at_ - la))) hF1 hM (by kernel_rfl) rfl rfl (by kernel_rfl) (by kernel_rfl) fun a1 w hF1 hM => ?_)
        refine sB 1 [(64, .int .i64 (size * 1048576))] hF1 (by kernel_rfl) fun a1 hF1 => ?_
        refine wl (eP 65 (v0 := .int .i64 (IntKind.i64.wrap (up pb ps pe (at_ - la) - size * 1048576))) (v := .int .i64 (up pb ps pe (at_ - la) - size * 1048576)) hF1 (by kernel_rfl) (fun _ => by kernel_rfl) (wi (by omega)) fun a1 hF1 => ?_)
        refine sB 3 [(66, .pointer (some ⟨bb5, 0, none⟩)), (67, .pointer (some ⟨bb5, 0, none⟩)), (68, .pointer (some ⟨bb5, 1, none⟩))] hF1 (by kernel_rfl) fun a1 hF1 => ?_
        refine wl (sStore (i := 5) (off := 1) (cs' := #[.int .i64 (up cb cr co (at_ - la)), .int .i64 (up pb ps pe (at_ - la) - size * 1048576), .int .i64 at_, .int .i64 cb, .int .i64 cr, .int .i64 pb, .int .i64 ps]) hF1 hM (by kernel_rfl) rfl rfl (by kernel_rfl) (by kernel_rfl) rfl (by kernel_rfl) fun w hM => ?_)
        refine wpList_nil ?_
        refine hK34 _ _ ?_
        refine wp_seq_k fun K36 hK36 => ?_
        refine wp_seq_k fun K37 hK37 => ?_
        refine wp_region_lit ?_
        refine sB 1 [(69, .int .i64 1)] hF1 (by kernel_rfl) fun a1 hF1 => ?_
        refine wl (eP 70 (v0 := .bool (decide (1 = 0))) (v := .bool false) hF1 (by kernel_rfl) (fun _ => by kernel_rfl) (bF (by omega)) fun a1 hF1 => ?_)
        refine wpList_nil ?_
        refine hK37 _ _ ?_
        refine cF hF1 (by kernel_rfl) (by kernel_rfl) ?_
        refine wp_skip ?_
        refine hK36 _ _ ?_
        refine wp_seq_k fun K38 hK38 => ?_
        refine wp_region_lit ?_
        refine sB 2 [(81, .int .i64 1), (6, .int .i64 1)] hF1 (by kernel_rfl) fun a1 hF1 => ?_
        refine wpList_nil ?_
        refine hK38 _ _ ?_
        refine wp_ret ?_
        refine hR13 _ _ ?_
        refine ret_of hF1 hM (.tmp rfl (.nil)) ⟨_, rfl, ?_⟩
        intro a hF
        refine sB 1 [(10, .int .i64 1)] hF (by kernel_rfl) fun a hF => ?_
        refine wpList_nil ?_
        refine hK12 _ _ ?_
        refine wp_seq_k fun K39 hK39 => ?_
        refine rT 11 (by kernel_rfl) (by kernel_rfl) hM.drew ?_
        refine eQ 53 (v0 := .int .i64 1) (v := .int .i64 1) hF (by kernel_rfl) (fun _ => by kernel_rfl) rfl fun a hF => ?_
        refine eQ 54 (v0 := .pointer (some ⟨bb5, 2, none⟩)) (v := .pointer (some ⟨bb5, 2, none⟩)) hF (by kernel_rfl) (fun _ => by kernel_rfl) rfl fun a hF => ?_
        refine eQL 55 5 2 (v := .int .i64 at_) hF (by kernel_rfl) rfl rfl (by kernel_rfl) (by kernel_rfl) fun a hF => ?_
        refine eQ 56 (v0 := .pointer (some ⟨bb5, 0, none⟩)) (v := .pointer (some ⟨bb5, 0, none⟩)) hF (by kernel_rfl) (fun _ => by kernel_rfl) rfl fun a hF => ?_
        refine eQ 57 (v0 := .pointer (some ⟨bb5, 0, none⟩)) (v := .pointer (some ⟨bb5, 0, none⟩)) hF (by kernel_rfl) (fun _ => by kernel_rfl) rfl fun a hF => ?_
        refine eQL 58 5 0 (v := .int .i64 (up cb cr co (at_ - la))) hF (by kernel_rfl) rfl rfl (by kernel_rfl) (by kernel_rfl) fun a hF => ?_
        refine eQ 59 (v0 := .pointer (some ⟨bb5, 0, none⟩)) (v := .pointer (some ⟨bb5, 0, none⟩)) hF (by kernel_rfl) (fun _ => by kernel_rfl) rfl fun a hF => ?_
        refine eQ 60 (v0 := .pointer (some ⟨bb5, 1, none⟩)) (v := .pointer (some ⟨bb5, 1, none⟩)) hF (by kernel_rfl) (fun _ => by kernel_rfl) rfl fun a hF => ?_
        refine eQL 61 5 1 (v := .int .i64 (up pb ps pe (at_ - la) - size * 1048576)) hF (by kernel_rfl) rfl rfl (by kernel_rfl) (by kernel_rfl) fun a hF => ?_
        refine eQ 62 (v0 := .agg #[.int .i64 at_, .int .i64 (up cb cr co (at_ - la)), .int .i64 (up pb ps pe (at_ - la) - size * 1048576)]) (v := .agg #[.int .i64 at_, .int .i64 (up cb cr co (at_ - la)), .int .i64 (up pb ps pe (at_ - la) - size * 1048576)]) hF (by kernel_rfl) (fun _ => by kernel_rfl) rfl fun a hF => ?_
        refine eQ 10 (v0 := .int .i64 1) (v := .int .i64 1) hF (by kernel_rfl) (fun _ => by kernel_rfl) rfl fun a hF => ?_
        refine wpQuiet_nil ?_
        intro w hM
        refine wl (sStore (i := 4) (off := 0) (cs' := #[.int .i64 at_, .int .i64 (up cb cr co (at_ - la)), .int .i64 (up pb ps pe (at_ - la) - size * 1048576)]) hF hM (by kernel_rfl) rfl rfl (by kernel_rfl) (by kernel_rfl) rfl (by kernel_rfl) fun w hM => ?_)
        refine sB 1 [(12, .int .i64 0)] hF (by kernel_rfl) fun a hF => ?_
        refine wpList_nil ?_
        refine hK39 _ _ ?_
        refine wp_ret ?_
        refine hR0 _ _ ?_
        refine ret_of hF hM (.tmp rfl (.cell (i := 4) rfl rfl (v := .agg #[.int .i64 at_, .int .i64 (up cb cr co (at_ - la)), .int .i64 (up pb ps pe (at_ - la) - size * 1048576)]) (by kernel_rfl) (.tmp rfl (.nil)))) ?_
        have he : mkE cb cr pb ps la co pe at_ size = 0 := by unfold mkE; omega
        have hcol : mkCol cb cr pb ps la co pe at_ size = 1 := by unfold mkCol colr; rw [if_pos he]; simp only [up] at *; omega
        refine ⟨ret_eq ?_, hM.bel⟩
        rw [hcol, he]; unfold mkL mkC mkP; rw [if_pos he, if_pos he, if_pos he, hcol]; rfl
       ·skip
        replace hF1 := hF1.c hF1 (i := 45) (v := .bool false) rfl (bF hz10)
        replace hF1 := hF1.c hF1 (i := 52) (v := .bool false) rfl (bF hz10)
        refine cF hF1 (by kernel_rfl) (by kernel_rfl) ?_
        refine wp_skip ?_
        refine hK22 _ _ ?_
        refine wp_exit ?_
        refine hK19 _ _ ?_
        refine wp_seq_k fun K40 hK40 => ?_
        refine wp_seq_k fun K41 hK41 => ?_
        refine wp_region_lit ?_
        refine sB 1 [(57, .int .i64 0)] hF1 (by kernel_rfl) fun a1 hF1 => ?_
        refine wl (eP 58 (v0 := .bool (!decide (0 = 2))) (v := .bool true) hF1 (by kernel_rfl) (fun _ => by kernel_rfl) (nF (by omega)) fun a1 hF1 => ?_)
        refine wpList_nil ?_
        refine hK41 _ _ ?_
        refine cT hF1 (by kernel_rfl) (by kernel_rfl) ?_
        refine wp_region_lit ?_
        refine sB 4 [(59, .pointer (some ⟨bb5, 0, none⟩)), (60, .pointer (some ⟨bb5, 0, none⟩)), (61, .pointer (some ⟨bb5, 0, none⟩)), (62, .pointer (some ⟨bb5, 1, none⟩))] hF1 (by kernel_rfl) fun a1 hF1 => ?_
        refine wl (eL 63 5 1 (v := .int .i64 (up pb ps pe (at_ - la))) hF1 hM (by kernel_rfl) rfl rfl (by kernel_rfl) (by kernel_rfl) fun a1 w hF1 hM => ?_)
        refine sB 1 [(64, .int .i64 (size * 1048576))] hF1 (by kernel_rfl) fun a1 hF1 => ?_
        refine wl (eP 65 (v0 := .int .i64 (IntKind.i64.wrap (up pb ps pe (at_ - la) - size * 1048576))) (v := .int .i64 (up pb ps pe (at_ - la) - size * 1048576)) hF1 (by kernel_rfl) (fun _ => by kernel_rfl) (wi (by omega)) fun a1 hF1 => ?_)
        refine sB 3 [(66, .pointer (some ⟨bb5, 0, none⟩)), (67, .pointer (some ⟨bb5, 0, none⟩)), (68, .pointer (some ⟨bb5, 1, none⟩))] hF1 (by kernel_rfl) fun a1 hF1 => ?_
        refine wl (sStore (i := 5) (off := 1) (cs' := #[.int .i64 (up cb cr co (at_ - la)), .int .i64 (up pb ps pe (at_ - la) - size * 1048576), .int .i64 at_, .int .i64 cb, .int .i64 cr, .int .i64 pb, .int .i64 ps]) hF1 hM (by kernel_rfl) rfl rfl (by kernel_rfl) (by kernel_rfl) rfl (by kernel_rfl) fun w hM => ?_)
        refine wpList_nil ?_
        refine hK40 _ _ ?_
        refine wp_seq_k fun K42 hK42 => ?_
        refine wp_seq_k fun K43 hK43 => ?_
        refine wp_region_lit ?_
        refine sB 1 [(69, .int .i64 0)] hF1 (by kernel_rfl) fun a1 hF1 => ?_
        refine wl (eP 70 (v0 := .bool (decide (0 = 0))) (v := .bool true) hF1 (by kernel_rfl) (fun _ => by kernel_rfl) (bT (by omega)) fun a1 hF1 => ?_)
        refine wpList_nil ?_
        refine hK43 _ _ ?_
        refine cT hF1 (by kernel_rfl) (by kernel_rfl) ?_
        refine wp_region_lit ?_
        refine sB 4 [(71, .pointer (some ⟨bb5, 0, none⟩)), (72, .pointer (some ⟨bb5, 0, none⟩)), (73, .pointer (some ⟨bb5, 0, none⟩)), (74, .pointer (some ⟨bb5, 0, none⟩))] hF1 (by kernel_rfl) fun a1 hF1 => ?_
        refine wl (eL 75 5 0 (v := .int .i64 (up cb cr co (at_ - la))) hF1 hM (by kernel_rfl) rfl rfl (by kernel_rfl) (by kernel_rfl) fun a1 w hF1 hM => ?_)
        refine sB 1 [(76, .int .i64 (size * 1048576))] hF1 (by kernel_rfl) fun a1 hF1 => ?_
        refine wl (eP 77 (v0 := .int .i64 (IntKind.i64.wrap (up cb cr co (at_ - la) - size * 1048576))) (v := .int .i64 (up cb cr co (at_ - la) - size * 1048576)) hF1 (by kernel_rfl) (fun _ => by kernel_rfl) (wi (by omega)) fun a1 hF1 => ?_)
        refine sB 3 [(78, .pointer (some ⟨bb5, 0, none⟩)), (79, .pointer (some ⟨bb5, 0, none⟩)), (80, .pointer (some ⟨bb5, 0, none⟩))] hF1 (by kernel_rfl) fun a1 hF1 => ?_
        refine wl (sStore (i := 5) (off := 0) (cs' := #[.int .i64 (up cb cr co (at_ - la) - size * 1048576), .int .i64 (up pb ps pe (at_ - la) - size * 1048576), .int .i64 at_, .int .i64 cb, .int .i64 cr, .int .i64 pb, .int .i64 ps]) hF1 hM (by kernel_rfl) rfl rfl (by kernel_rfl) (by kernel_rfl) rfl (by kernel_rfl) fun w hM => ?_)
        refine wpList_nil ?_
        refine hK42 _ _ ?_
        refine wp_seq_k fun K44 hK44 => ?_
        refine wp_region_lit ?_
        refine sB 2 [(81, .int .i64 0), (6, .int .i64 0)] hF1 (by kernel_rfl) fun a1 hF1 => ?_
        refine wpList_nil ?_
        refine hK44 _ _ ?_
        refine wp_ret ?_
        refine hR13 _ _ ?_
        refine ret_of hF1 hM (.tmp rfl (.nil)) ⟨_, rfl, ?_⟩
        intro a hF
        refine sB 1 [(10, .int .i64 0)] hF (by kernel_rfl) fun a hF => ?_
        refine wpList_nil ?_
        refine hK12 _ _ ?_
        refine wp_seq_k fun K45 hK45 => ?_
        refine rT 11 (by kernel_rfl) (by kernel_rfl) hM.drew ?_
        refine eQ 53 (v0 := .int .i64 0) (v := .int .i64 0) hF (by kernel_rfl) (fun _ => by kernel_rfl) rfl fun a hF => ?_
        refine eQ 54 (v0 := .pointer (some ⟨bb5, 2, none⟩)) (v := .pointer (some ⟨bb5, 2, none⟩)) hF (by kernel_rfl) (fun _ => by kernel_rfl) rfl fun a hF => ?_
        refine eQL 55 5 2 (v := .int .i64 at_) hF (by kernel_rfl) rfl rfl (by kernel_rfl) (by kernel_rfl) fun a hF => ?_
        refine eQ 56 (v0 := .pointer (some ⟨bb5, 0, none⟩)) (v := .pointer (some ⟨bb5, 0, none⟩)) hF (by kernel_rfl) (fun _ => by kernel_rfl) rfl fun a hF => ?_
        refine eQ 57 (v0 := .pointer (some ⟨bb5, 0, none⟩)) (v := .pointer (some ⟨bb5, 0, none⟩)) hF (by kernel_rfl) (fun _ => by kernel_rfl) rfl fun a hF => ?_
        refine eQL 58 5 0 (v := .int .i64 (up cb cr co (at_ - la) - size * 1048576)) hF (by kernel_rfl) rfl rfl (by kernel_rfl) (by kernel_rfl) fun a hF => ?_
        refine eQ 59 (v0 := .pointer (some ⟨bb5, 0, none⟩)) (v := .pointer (some ⟨bb5, 0, none⟩)) hF (by kernel_rfl) (fun _ => by kernel_rfl) rfl fun a hF => ?_
        refine eQ 60 (v0 := .pointer (some ⟨bb5, 1, none⟩)) (v := .pointer (some ⟨bb5, 1, none⟩)) hF (by kernel_rfl) (fun _ => by kernel_rfl) rfl fun a hF => ?_
        refine eQL 61 5 1 (v := .int .i64 (up pb ps pe (at_ - la) - size * 1048576)) hF (by kernel_rfl) rfl rfl (by kernel_rfl) (by kernel_rfl) fun a hF => ?_
        refine eQ 62 (v0 := .agg #[.int .i64 at_, .int .i64 (up cb cr co (at_ - la) - size * 1048576), .int .i64 (up pb ps pe (at_ - la) - size * 1048576)]) (v := .agg #[.int .i64 at_, .int .i64 (up cb cr co (at_ - la) - size * 1048576), .int .i64 (up pb ps pe (at_ - la) - size * 1048576)]) hF (by kernel_rfl) (fun _ => by kernel_rfl) rfl fun a hF => ?_
        refine eQ 10 (v0 := .int .i64 0) (v := .int .i64 0) hF (by kernel_rfl) (fun _ => by kernel_rfl) rfl fun a hF => ?_
        refine wpQuiet_nil ?_
        intro w hM
        refine wl (sStore (i := 4) (off := 0) (cs' := #[.int .i64 at_, .int .i64 (up cb cr co (at_ - la) - size * 1048576), .int .i64 (up pb ps pe (at_ - la) - size * 1048576)]) hF hM (by kernel_rfl) rfl rfl (by kernel_rfl) (by kernel_rfl) rfl (by kernel_rfl) fun w hM => ?_)
        refine sB 1 [(12, .int .i64 0)] hF (by kernel_rfl) fun a hF => ?_
        refine wpList_nil ?_
        refine hK45 _ _ ?_
        refine wp_ret ?_
        refine hR0 _ _ ?_
        refine ret_of hF hM (.tmp rfl (.cell (i := 4) rfl rfl (v := .agg #[.int .i64 at_, .int .i64 (up cb cr co (at_ - la) - size * 1048576), .int .i64 (up pb ps pe (at_ - la) - size * 1048576)]) (by kernel_rfl) (.tmp rfl (.nil)))) ?_
        have he : mkE cb cr pb ps la co pe at_ size = 0 := by unfold mkE; omega
        have hcol : mkCol cb cr pb ps la co pe at_ size = 0 := by unfold mkCol colr; rw [if_pos he]; simp only [up] at *; omega
        refine ⟨ret_eq ?_, hM.bel⟩
        rw [hcol, he]; unfold mkL mkC mkP; rw [if_pos he, if_pos he, if_pos he, hcol]; rfl
 ·skip
  replace hF := hF.c hF (i := 20) (v := .bool true) rfl (nF hz1)
  refine cT hF (by kernel_rfl) (by kernel_rfl) ?_
  refine wp_seq_k fun K46 hK46 => ?_
  refine wp_region_lit ?_
  refine sB 3 [(21, .agg #[.int .i64 0, .int .i64 0, .int .i64 0]), (22, .int .i64 (mtE cb cr pb ps la co pe)), (10, .int .i64 0)] hF (by kernel_rfl) fun a hF => ?_
  refine wl (sStore (i := 4) (off := 0) (cs' := #[.int .i64 0, .int .i64 0, .int .i64 0]) hF hM (by kernel_rfl) rfl rfl (by kernel_rfl) (by kernel_rfl) rfl (by kernel_rfl) fun w hM => ?_)
  refine sB 1 [(12, .int .i64 (mtE cb cr pb ps la co pe))] hF (by kernel_rfl) fun a hF => ?_
  refine wpList_nil ?_
  refine hK46 _ _ ?_
  refine wp_ret ?_
  refine hR0 _ _ ?_
  refine ret_of hF hM (.tmp rfl (.cell (i := 4) rfl rfl (v := .agg #[.int .i64 0, .int .i64 0, .int .i64 0]) (by kernel_rfl) (.tmp rfl (.nil)))) ?_
  have he : mkE cb cr pb ps la co pe at_ size = mtE cb cr pb ps la co pe := by unfold mkE; omega
  have hn : ¬ mkE cb cr pb ps la co pe at_ size = 0 := by omega
  refine ⟨ret_eq ?_, hM.bel⟩
  unfold mkCol mkL mkC mkP; rw [if_neg hn, if_neg hn, if_neg hn, if_neg hn, he]; rfl

theorem refMark_w (cb cr pb ps la co pe at_ size : Int) (w0 : World) :
    Calls Try.prog 39 #[.agg #[.int .i64 cb, .int .i64 cr], .agg #[.int .i64 pb, .int .i64 ps], .agg #[.int .i64 la, .int .i64 co, .int .i64 pe], .int .i64 at_, .int .i64 size] w0 (Ret w0 (.tuple #[.int .i64 (mkCol cb cr pb ps la co pe at_ size), .agg #[.int .i64 (mkL cb cr pb ps la co pe at_ size), .int .i64 (mkC cb cr pb ps la co pe at_ size), .int .i64 (mkP cb cr pb ps la co pe at_ size)], .int .i64 (mkE cb cr pb ps la co pe at_ size)])) := by
 refine enterK 90 Try.func39 rfl rfl rfl ?_
 intro a hF Q0 hR0 hN0
 have hM := Mem.start w0
 refine wp_seq_k fun K1 hK1 => ?_
 refine wp_region_lit ?_
 refine wl (eN 5 1 (t := 67) (fun b => .pointer (some ⟨b, 0, none⟩)) #[.int .i64 cb, .int .i64 cr] hF hM (by kernel_rfl) (fun _ => by kernel_rfl) fun bb1 a w hF hM => ?_)
 refine wl (eN 6 2 (t := 67) (fun b => .pointer (some ⟨b, 0, none⟩)) #[.int .i64 pb, .int .i64 ps] hF hM (by kernel_rfl) (fun _ => by kernel_rfl) fun bb2 a w hF hM => ?_)
 refine wl (eN 7 3 (t := 80) (fun b => .pointer (some ⟨b, 0, none⟩)) #[.int .i64 la, .int .i64 co, .int .i64 pe] hF hM (by kernel_rfl) (fun _ => by kernel_rfl) fun bb3 a w hF hM => ?_)
 refine sB 1 [(10, .int .i64 0)] hF (by kernel_rfl) fun a hF => ?_
 refine wl (eN 11 4 (t := 80) (fun b => .pointer (some ⟨b, 0, none⟩)) #[.int .i64 0, .int .i64 0, .int .i64 0] hF hM (by kernel_rfl) (fun _ => by kernel_rfl) fun bb4 a w hF hM => ?_)
 refine sB 1 [(12, .int .i64 0)] hF (by kernel_rfl) fun a hF => ?_
 refine wpList_nil ?_
 refine hK1 _ _ ?_
 refine wp_seq_k fun K2 hK2 => ?_
 refine wp_region_lit ?_
 refine wl (eL 16 1 0 (v := .agg #[.int .i64 cb, .int .i64 cr]) hF hM (by kernel_rfl) rfl rfl (by kernel_rfl) (by kernel_rfl) fun a w hF hM => ?_)
 refine wl (eL 17 2 0 (v := .agg #[.int .i64 pb, .int .i64 ps]) hF hM (by kernel_rfl) rfl rfl (by kernel_rfl) (by kernel_rfl) fun a w hF hM => ?_)
 refine wl (eL 18 3 0 (v := .agg #[.int .i64 la, .int .i64 co, .int .i64 pe]) hF hM (by kernel_rfl) rfl rfl (by kernel_rfl) (by kernel_rfl) fun a w hF hM => ?_)
 refine wl (eM 19 (v := .int .i64 (mtE cb cr pb ps la co pe)) hF hM (by kernel_rfl) (yld_call (f := 29) (args := #[.agg #[.int .i64 cb, .int .i64 cr], .agg #[.int .i64 pb, .int .i64 ps], .agg #[.int .i64 la, .int .i64 co, .int .i64 pe]]) hF (by kernel_rfl) (fun _ => by kernel_rfl) (fun w hM => refCheck_w cb cr pb ps la co pe w)) fun a w hF hM => ?_)
 refine sB 1 [(13, .int .i64 (mtE cb cr pb ps la co pe))] hF (by kernel_rfl) fun a hF => ?_
 refine wpList_nil ?_
 refine hK2 _ _ ?_
 refine wp_seq_k fun K3 hK3 => ?_
 refine wp_seq_k fun K4 hK4 => ?_
 refine wp_region_lit ?_
 refine sB 2 [(20, .int .i64 (mtE cb cr pb ps la co pe)), (21, .bool (!decide (mtE cb cr pb ps la co pe = 0)))] hF (by kernel_rfl) fun a hF => ?_
 refine wpList_nil ?_
 refine hK4 _ _ ?_
 by_cases hz1 : mtE cb cr pb ps la co pe = 0
 ·skip
  have hz2 := mtE_ok hz1
  have hz3 := hz2.1
  have hz4 := newE_ok hz3
  replace hF := hF.c hF (i := 21) (v := .bool false) rfl (nT hz1)
  refine cF hF (by kernel_rfl) (by kernel_rfl) ?_
  refine wp_skip ?_
  refine hK3 _ _ ?_
  refine wp_seq_k fun K5 hK5 => ?_
  refine wp_seq_k fun K6 hK6 => ?_
  by_cases hz5 : la ≤ at_
  ·skip
   by_cases hz6 : at_ ≤ 1099511627776
   ·skip
    by_cases hz7 : 1 ≤ size
    ·skip
     by_cases hz8 : size ≤ 1048576
     ·skip
      refine wp_region_lit ?_
      refine sB 2 [(24, .int .i64 at_), (25, .pointer (some ⟨bb3, 0, none⟩))] hF (by kernel_rfl) fun a hF => ?_
      refine wl (eL 26 3 0 (v := .int .i64 la) hF hM (by kernel_rfl) rfl rfl (by kernel_rfl) (by kernel_rfl) fun a w hF hM => ?_)
      refine wl (eM 27 (v := .bool true) hF hM (by kernel_rfl) (yld_call (f := 43) (args := #[.int .i64 at_, .int .i64 la, .int .i64 1099511627776]) hF (by kernel_rfl) (fun _ => by kernel_rfl) (fun w hM => in_yes at_ la 1099511627776 w hz5 hz6)) fun a w hF hM => ?_)
      refine sB 3 [(28, .bool false), (29, .bool false), (30, .int .i64 size)] hF (by kernel_rfl) fun a hF => ?_
      refine wl (eM 31 (v := .bool true) hF hM (by kernel_rfl) (yld_call (f := 43) (args := #[.int .i64 size, .int .i64 1, .int .i64 1048576]) hF (by kernel_rfl) (fun _ => by kernel_rfl) (fun w hM => in_yes size 1 1048576 w hz7 hz8)) fun a w hF hM => ?_)
      refine sB 2 [(32, .bool false), (33, .bool false)] hF (by kernel_rfl) fun a hF => ?_
      refine wpList_nil ?_
      refine hK6 _ _ ?_
      refine cF hF (by kernel_rfl) (by kernel_rfl) ?_
      refine wp_skip ?_
      refine hK5 _ _ ?_
      refine wp_seq_k fun K7 hK7 => ?_
      refine wp_region_lit ?_
      refine sB 1 [(35, .int .i64 size)] hF (by kernel_rfl) fun a hF => ?_
      refine wl (eP 36 (v0 := .int .i64 (IntKind.i64.wrap (size * 1048576))) (v := .int .i64 (size * 1048576)) hF (by kernel_rfl) (fun _ => by kernel_rfl) (wi (by omega)) fun a hF => ?_)
      refine sB 1 [(14, .int .i64 (size * 1048576))] hF (by kernel_rfl) fun a hF => ?_
      refine wpList_nil ?_
      refine hK7 _ _ ?_
      refine wp_seq_k fun K8 hK8 => ?_
      refine wp_region_lit ?_
      refine sB 2 [(37, .int .i64 at_), (38, .agg #[.int .i64 at_, .int .i64 0, .int .i64 0])] hF (by kernel_rfl) fun a hF => ?_
      refine wl (eN 15 5 (t := 80) (fun b => .pointer (some ⟨b, 0, none⟩)) #[.int .i64 0, .int .i64 0, .int .i64 0] hF hM (by kernel_rfl) (fun _ => by kernel_rfl) fun bb5 a w hF hM => ?_)
      refine wl (sStore (i := 5) (off := 0) (cs' := #[.int .i64 at_, .int .i64 0, .int .i64 0]) hF hM (by kernel_rfl) rfl rfl (by kernel_rfl) (by kernel_rfl) rfl (by kernel_rfl) fun w hM => ?_)
      refine wpList_nil ?_
      refine hK8 _ _ ?_
      refine wp_seq_k fun K9 hK9 => ?_
      refine wp_region_lit ?_
      refine sB 1 [(39, .pointer (some ⟨bb1, 0, none⟩))] hF (by kernel_rfl) fun a hF => ?_
      refine wl (eL 40 1 0 (v := .int .i64 cb) hF hM (by kernel_rfl) rfl rfl (by kernel_rfl) (by kernel_rfl) fun a w hF hM => ?_)
      refine wl (eP 41 (v0 := .int .i64 (IntKind.i64.wrap (cb * 1048576))) (v := .int .i64 (cb * 1048576)) hF (by kernel_rfl) (fun _ => by kernel_rfl) (wi (by omega)) fun a hF => ?_)
      refine sB 1 [(42, .pointer (some ⟨bb3, 1, none⟩))] hF (by kernel_rfl) fun a hF => ?_
      refine wl (eL 43 3 1 (v := .int .i64 co) hF hM (by kernel_rfl) rfl rfl (by kernel_rfl) (by kernel_rfl) fun a w hF hM => ?_)
      refine sB 1 [(44, .pointer (some ⟨bb1, 1, none⟩))] hF (by kernel_rfl) fun a hF => ?_
      refine wl (eL 45 1 1 (v := .int .i64 cr) hF hM (by kernel_rfl) rfl rfl (by kernel_rfl) (by kernel_rfl) fun a w hF hM => ?_)
      refine sB 2 [(46, .int .i64 at_), (47, .pointer (some ⟨bb3, 0, none⟩))] hF (by kernel_rfl) fun a hF => ?_
      refine wl (eL 48 3 0 (v := .int .i64 la) hF hM (by kernel_rfl) rfl rfl (by kernel_rfl) (by kernel_rfl) fun a w hF hM => ?_)
      refine wl (eP 49 (v0 := .int .i64 (IntKind.i64.wrap (at_ - la))) (v := .int .i64 (at_ - la)) hF (by kernel_rfl) (fun _ => by kernel_rfl) (wi (by omega)) fun a hF => ?_)
      have hz9 : 0 ≤ cr * (at_ - la) ∧ cr * (at_ - la) ≤ 2305843009213693952 := mul_bd (1) (2097152) (0) (1099511627776) (by omega) (by omega) (by omega) (by omega) (by decide)
      refine wl (eP 50 (v0 := .int .i64 (IntKind.i64.wrap (cr * (at_ - la)))) (v := .int .i64 (cr * (at_ - la))) hF (by kernel_rfl) (fun _ => by kernel_rfl) (wi (by omega)) fun a hF => ?_)
      refine wl (eP 51 (v0 := .int .i64 (IntKind.i64.wrap (co + cr * (at_ - la)))) (v := .int .i64 (co + cr * (at_ - la))) hF (by kernel_rfl) (fun _ => by kernel_rfl) (wi (by omega)) fun a hF => ?_)
      refine wl (eP 52 (v0 := .int .i64 (if co + cr * (at_ - la) < cb * 1048576 then co + cr * (at_ - la) else cb * 1048576)) (v := .int .i64 (min (cb * 1048576) (co + cr * (at_ - la)))) hF (by kernel_rfl) (fun _ => by kernel_rfl) (vi (min_if _ _)) fun a hF => ?_)
      refine sB 1 [(53, .pointer (some ⟨bb5, 1, none⟩))] hF (by kernel_rfl) fun a hF => ?_
      refine wl (sStore (i := 5) (off := 1) (cs' := #[.int .i64 at_, .int .i64 (min (cb * 1048576) (co + cr * (at_ - la))), .int .i64 0]) hF hM (by kernel_rfl) rfl rfl (by kernel_rfl) (by kernel_rfl) rfl (by kernel_rfl) fun w hM => ?_)
      refine wpList_nil ?_
      refine hK9 _ _ ?_
      refine wp_seq_k fun K10 hK10 => ?_
      refine wp_region_lit ?_
      refine sB 1 [(54, .pointer (some ⟨bb2, 0, none⟩))] hF (by kernel_rfl) fun a hF => ?_
      refine wl (eL 55 2 0 (v := .int .i64 pb) hF hM (by kernel_rfl) rfl rfl (by kernel_rfl) (by kernel_rfl) fun a w hF hM => ?_)
      refine wl (eP 56 (v0 := .int .i64 (IntKind.i64.wrap (pb * 1048576))) (v := .int .i64 (pb * 1048576)) hF (by kernel_rfl) (fun _ => by kernel_rfl) (wi (by omega)) fun a hF => ?_)
      refine sB 1 [(57, .pointer (some ⟨bb3, 2, none⟩))] hF (by kernel_rfl) fun a hF => ?_
      refine wl (eL 58 3 2 (v := .int .i64 pe) hF hM (by kernel_rfl) rfl rfl (by kernel_rfl) (by kernel_rfl) fun a w hF hM => ?_)
      refine sB 1 [(59, .pointer (some ⟨bb2, 1, none⟩))] hF (by kernel_rfl) fun a hF => ?_
      refine wl (eL 60 2 1 (v := .int .i64 ps) hF hM (by kernel_rfl) rfl rfl (by kernel_rfl) (by kernel_rfl) fun a w hF hM => ?_)
      refine sB 2 [(61, .int .i64 at_), (62, .pointer (some ⟨bb3, 0, none⟩))] hF (by kernel_rfl) fun a hF => ?_
      refine wl (eL 63 3 0 (v := .int .i64 la) hF hM (by kernel_rfl) rfl rfl (by kernel_rfl) (by kernel_rfl) fun a w hF hM => ?_)
      refine wl (eP 64 (v0 := .int .i64 (IntKind.i64.wrap (at_ - la))) (v := .int .i64 (at_ - la)) hF (by kernel_rfl) (fun _ => by kernel_rfl) (wi (by omega)) fun a hF => ?_)
      have hz10 : 0 ≤ ps * (at_ - la) ∧ ps * (at_ - la) ≤ 2305843009213693952 := mul_bd (1) (2097152) (0) (1099511627776) (by omega) (by omega) (by omega) (by omega) (by decide)
      refine wl (eP 65 (v0 := .int .i64 (IntKind.i64.wrap (ps * (at_ - la)))) (v := .int .i64 (ps * (at_ - la))) hF (by kernel_rfl) (fun _ => by kernel_rfl) (wi (by omega)) fun a hF => ?_)
      refine wl (eP 66 (v0 := .int .i64 (IntKind.i64.wrap (pe + ps * (at_ - la)))) (v := .int .i64 (pe + ps * (at_ - la))) hF (by kernel_rfl) (fun _ => by kernel_rfl) (wi (by omega)) fun a hF => ?_)
      refine wl (eP 67 (v0 := .int .i64 (if pe + ps * (at_ - la) < pb * 1048576 then pe + ps * (at_ - la) else pb * 1048576)) (v := .int .i64 (min (pb * 1048576) (pe + ps * (at_ - la)))) hF (by kernel_rfl) (fun _ => by kernel_rfl) (vi (min_if _ _)) fun a hF => ?_)
      refine sB 1 [(68, .pointer (some ⟨bb5, 2, none⟩))] hF (by kernel_rfl) fun a hF => ?_
      refine wl (sStore (i := 5) (off := 2) (cs' := #[.int .i64 at_, .int .i64 (min (cb * 1048576) (co + cr * (at_ - la))), .int .i64 (min (pb * 1048576) (pe + ps * (at_ - la)))]) hF hM (by kernel_rfl) rfl rfl (by kernel_rfl) (by kernel_rfl) rfl (by kernel_rfl) fun w hM => ?_)
      refine wpList_nil ?_
      refine hK10 _ _ ?_
      refine wp_seq_k fun K11 hK11 => ?_
      refine wp_seq_k fun K12 hK12 => ?_
      refine wp_region_lit ?_
      refine sB 1 [(69, .pointer (some ⟨bb5, 2, none⟩))] hF (by kernel_rfl) fun a hF => ?_
      refine wl (eL 70 5 2 (v := .int .i64 (min (pb * 1048576) (pe + ps * (at_ - la)))) hF hM (by kernel_rfl) rfl rfl (by kernel_rfl) (by kernel_rfl) fun a w hF hM => ?_)
      refine sB 2 [(71, .int .i64 (size * 1048576)), (72, .bool (decide (min (pb * 1048576) (pe + ps * (at_ - la)) < size * 1048576)))] hF (by kernel_rfl) fun a hF => ?_
      refine wpList_nil ?_
      refine hK12 _ _ ?_
      by_cases hz11 : min (pb * 1048576) (pe + ps * (at_ - la)) < size * 1048576
      ·skip
       replace hF := hF.c hF (i := 72) (v := .bool true) rfl (bT hz11)
       refine cT hF (by kernel_rfl) (by kernel_rfl) ?_
       refine wp_seq_k fun K13 hK13 => ?_
       refine rT 2 (by kernel_rfl) (by kernel_rfl) hM.drew ?_
       refine eQL 73 5 0 (v := .agg #[.int .i64 at_, .int .i64 (min (cb * 1048576) (co + cr * (at_ - la))), .int .i64 (min (pb * 1048576) (pe + ps * (at_ - la)))]) hF (by kernel_rfl) rfl rfl (by kernel_rfl) (by kernel_rfl) fun a hF => ?_
       refine eQ 10 (v0 := .int .i64 2) (v := .int .i64 2) hF (by kernel_rfl) (fun _ => by kernel_rfl) rfl fun a hF => ?_
       refine wpQuiet_nil ?_
       intro w hM
       refine wl (sStore (i := 4) (off := 0) (cs' := #[.int .i64 at_, .int .i64 (min (cb * 1048576) (co + cr * (at_ - la))), .int .i64 (min (pb * 1048576) (pe + ps * (at_ - la)))]) hF hM (by kernel_rfl) rfl rfl (by kernel_rfl) (by kernel_rfl) rfl (by kernel_rfl) fun w hM => ?_)
       refine sB 1 [(12, .int .i64 0)] hF (by kernel_rfl) fun a hF => ?_
       refine wpList_nil ?_
       refine hK13 _ _ ?_
       refine wp_ret ?_
       refine hR0 _ _ ?_
       refine ret_of hF hM (.tmp rfl (.cell (i := 4) rfl rfl (v := .agg #[.int .i64 at_, .int .i64 (min (cb * 1048576) (co + cr * (at_ - la))), .int .i64 (min (pb * 1048576) (pe + ps * (at_ - la)))]) (by kernel_rfl) (.tmp rfl (.nil)))) ?_
       have he : mkE cb cr pb ps la co pe at_ size = 0 := by unfold mkE; omega
       have hcol : mkCol cb cr pb ps la co pe at_ size = 2 := by unfold mkCol colr; rw [if_pos he]; simp only [up] at *; omega
       refine ⟨ret_eq ?_, hM.bel⟩
       rw [hcol, he]; unfold mkL mkC mkP; rw [if_pos he, if_pos he, if_pos he, hcol]; rfl
      ·skip
       replace hF := hF.c hF (i := 72) (v := .bool false) rfl (bF hz11)
       refine cF hF (by kernel_rfl) (by kernel_rfl) ?_
       refine wp_skip ?_
       refine hK11 _ _ ?_
       refine wp_seq_k fun K14 hK14 => ?_
       refine wp_region_lit ?_
       refine sB 1 [(74, .pointer (some ⟨bb5, 2, none⟩))] hF (by kernel_rfl) fun a hF => ?_
       refine wl (eL 75 5 2 (v := .int .i64 (min (pb * 1048576) (pe + ps * (at_ - la)))) hF hM (by kernel_rfl) rfl rfl (by kernel_rfl) (by kernel_rfl) fun a w hF hM => ?_)
       refine sB 1 [(76, .int .i64 (size * 1048576))] hF (by kernel_rfl) fun a hF => ?_
       refine wl (eP 77 (v0 := .int .i64 (IntKind.i64.wrap (min (pb * 1048576) (pe + ps * (at_ - la)) - size * 1048576))) (v := .int .i64 (min (pb * 1048576) (pe + ps * (at_ - la)) - size * 1048576)) hF (by kernel_rfl) (fun _ => by kernel_rfl) (wi (by omega)) fun a hF => ?_)
       refine sB 1 [(78, .pointer (some ⟨bb5, 2, none⟩))] hF (by kernel_rfl) fun a hF => ?_
       refine wl (sStore (i := 5) (off := 2) (cs' := #[.int .i64 at_, .int .i64 (min (cb * 1048576) (co + cr * (at_ - la))), .int .i64 (min (pb * 1048576) (pe + ps * (at_ - la)) - size * 1048576)]) hF hM (by kernel_rfl) rfl rfl (by kernel_rfl) (by kernel_rfl) rfl (by kernel_rfl) fun w hM => ?_)
       refine wpList_nil ?_
       refine hK14 _ _ ?_
       refine wp_seq_k fun K15 hK15 => ?_
       refine wp_seq_k fun K16 hK16 => ?_
       refine wp_region_lit ?_
       refine sB 1 [(79, .pointer (some ⟨bb5, 1, none⟩))] hF (by kernel_rfl) fun a hF => ?_
       refine wl (eL 80 5 1 (v := .int .i64 (min (cb * 1048576) (co + cr * (at_ - la)))) hF hM (by kernel_rfl) rfl rfl (by kernel_rfl) (by kernel_rfl) fun a w hF hM => ?_)
       refine sB 2 [(81, .int .i64 (size * 1048576)), (82, .bool (decide (min (cb * 1048576) (co + cr * (at_ - la)) < size * 1048576)))] hF (by kernel_rfl) fun a hF => ?_
       refine wpList_nil ?_
       refine hK16 _ _ ?_
       by_cases hz12 : min (cb * 1048576) (co + cr * (at_ - la)) < size * 1048576
       ·skip
        replace hF := hF.c hF (i := 82) (v := .bool true) rfl (bT hz12)
        refine cT hF (by kernel_rfl) (by kernel_rfl) ?_
        refine wp_seq_k fun K17 hK17 => ?_
        refine rT 2 (by kernel_rfl) (by kernel_rfl) hM.drew ?_
        refine eQL 83 5 0 (v := .agg #[.int .i64 at_, .int .i64 (min (cb * 1048576) (co + cr * (at_ - la))), .int .i64 (min (pb * 1048576) (pe + ps * (at_ - la)) - size * 1048576)]) hF (by kernel_rfl) rfl rfl (by kernel_rfl) (by kernel_rfl) fun a hF => ?_
        refine eQ 10 (v0 := .int .i64 1) (v := .int .i64 1) hF (by kernel_rfl) (fun _ => by kernel_rfl) rfl fun a hF => ?_
        refine wpQuiet_nil ?_
        intro w hM
        refine wl (sStore (i := 4) (off := 0) (cs' := #[.int .i64 at_, .int .i64 (min (cb * 1048576) (co + cr * (at_ - la))), .int .i64 (min (pb * 1048576) (pe + ps * (at_ - la)) - size * 1048576)]) hF hM (by kernel_rfl) rfl rfl (by kernel_rfl) (by kernel_rfl) rfl (by kernel_rfl) fun w hM => ?_)
        refine sB 1 [(12, .int .i64 0)] hF (by kernel_rfl) fun a hF => ?_
        refine wpList_nil ?_
        refine hK17 _ _ ?_
        refine wp_ret ?_
        refine hR0 _ _ ?_
        refine ret_of hF hM (.tmp rfl (.cell (i := 4) rfl rfl (v := .agg #[.int .i64 at_, .int .i64 (min (cb * 1048576) (co + cr * (at_ - la))), .int .i64 (min (pb * 1048576) (pe + ps * (at_ - la)) - size * 1048576)]) (by kernel_rfl) (.tmp rfl (.nil)))) ?_
        have he : mkE cb cr pb ps la co pe at_ size = 0 := by unfold mkE; omega
        have hcol : mkCol cb cr pb ps la co pe at_ size = 1 := by unfold mkCol colr; rw [if_pos he]; simp only [up] at *; omega
        refine ⟨ret_eq ?_, hM.bel⟩
        rw [hcol, he]; unfold mkL mkC mkP; rw [if_pos he, if_pos he, if_pos he, hcol]; rfl
       ·skip
        replace hF := hF.c hF (i := 82) (v := .bool false) rfl (bF hz12)
        refine cF hF (by kernel_rfl) (by kernel_rfl) ?_
        refine wp_skip ?_
        refine hK15 _ _ ?_
        refine wp_seq_k fun K18 hK18 => ?_
        refine wp_region_lit ?_
        refine sB 1 [(84, .pointer (some ⟨bb5, 1, none⟩))] hF (by kernel_rfl) fun a hF => ?_
        refine wl (eL 85 5 1 (v := .int .i64 (min (cb * 1048576) (co + cr * (at_ - la)))) hF hM (by kernel_rfl) rfl rfl (by kernel_rfl) (by kernel_rfl) fun a w hF hM => ?_)
        refine sB 1 [(86, .int .i64 (size * 1048576))] hF (by kernel_rfl) fun a hF => ?_
        refine wl (eP 87 (v0 := .int .i64 (IntKind.i64.wrap (min (cb * 1048576) (co + cr * (at_ - la)) - size * 1048576))) (v := .int .i64 (min (cb * 1048576) (co + cr * (at_ - la)) - size * 1048576)) hF (by kernel_rfl) (fun _ => by kernel_rfl) (wi (by omega)) fun a hF => ?_)
        refine sB 1 [(88, .pointer (some ⟨bb5, 1, none⟩))] hF (by kernel_rfl) fun a hF => ?_
        refine wl (sStore (i := 5) (off := 1) (cs' := #[.int .i64 at_, .int .i64 (min (cb * 1048576) (co + cr * (at_ - la)) - size * 1048576), .int .i64 (min (pb * 1048576) (pe + ps * (at_ - la)) - size * 1048576)]) hF hM (by kernel_rfl) rfl rfl (by kernel_rfl) (by kernel_rfl) rfl (by kernel_rfl) fun w hM => ?_)
        refine wpList_nil ?_
        refine hK18 _ _ ?_
        refine wp_seq_k fun K19 hK19 => ?_
        refine rT 2 (by kernel_rfl) (by kernel_rfl) hM.drew ?_
        refine eQL 89 5 0 (v := .agg #[.int .i64 at_, .int .i64 (min (cb * 1048576) (co + cr * (at_ - la)) - size * 1048576), .int .i64 (min (pb * 1048576) (pe + ps * (at_ - la)) - size * 1048576)]) hF (by kernel_rfl) rfl rfl (by kernel_rfl) (by kernel_rfl) fun a hF => ?_
        refine eQ 10 (v0 := .int .i64 0) (v := .int .i64 0) hF (by kernel_rfl) (fun _ => by kernel_rfl) rfl fun a hF => ?_
        refine wpQuiet_nil ?_
        intro w hM
        refine wl (sStore (i := 4) (off := 0) (cs' := #[.int .i64 at_, .int .i64 (min (cb * 1048576) (co + cr * (at_ - la)) - size * 1048576), .int .i64 (min (pb * 1048576) (pe + ps * (at_ - la)) - size * 1048576)]) hF hM (by kernel_rfl) rfl rfl (by kernel_rfl) (by kernel_rfl) rfl (by kernel_rfl) fun w hM => ?_)
        refine sB 1 [(12, .int .i64 0)] hF (by kernel_rfl) fun a hF => ?_
        refine wpList_nil ?_
        refine hK19 _ _ ?_
        refine wp_ret ?_
        refine hR0 _ _ ?_
        refine ret_of hF hM (.tmp rfl (.cell (i := 4) rfl rfl (v := .agg #[.int .i64 at_, .int .i64 (min (cb * 1048576) (co + cr * (at_ - la)) - size * 1048576), .int .i64 (min (pb * 1048576) (pe + ps * (at_ - la)) - size * 1048576)]) (by kernel_rfl) (.tmp rfl (.nil)))) ?_
        have he : mkE cb cr pb ps la co pe at_ size = 0 := by unfold mkE; omega
        have hcol : mkCol cb cr pb ps la co pe at_ size = 0 := by unfold mkCol colr; rw [if_pos he]; simp only [up] at *; omega
        refine ⟨ret_eq ?_, hM.bel⟩
        rw [hcol, he]; unfold mkL mkC mkP; rw [if_pos he, if_pos he, if_pos he, hcol]; rfl
     ·skip
      refine wp_region_lit ?_
      refine sB 2 [(24, .int .i64 at_), (25, .pointer (some ⟨bb3, 0, none⟩))] hF (by kernel_rfl) fun a hF => ?_
      refine wl (eL 26 3 0 (v := .int .i64 la) hF hM (by kernel_rfl) rfl rfl (by kernel_rfl) (by kernel_rfl) fun a w hF hM => ?_)
      refine wl (eM 27 (v := .bool true) hF hM (by kernel_rfl) (yld_call (f := 43) (args := #[.int .i64 at_, .int .i64 la, .int .i64 1099511627776]) hF (by kernel_rfl) (fun _ => by kernel_rfl) (fun w hM => in_yes at_ la 1099511627776 w hz5 hz6)) fun a w hF hM => ?_)
      refine sB 3 [(28, .bool false), (29, .bool false), (30, .int .i64 size)] hF (by kernel_rfl) fun a hF => ?_
      refine wl (eM 31 (v := .bool false) hF hM (by kernel_rfl) (yld_call (f := 43) (args := #[.int .i64 size, .int .i64 1, .int .i64 1048576]) hF (by kernel_rfl) (fun _ => by kernel_rfl) (fun w hM => in_no size 1 1048576 w (.inr hz8))) fun a w hF hM => ?_)
      refine sB 2 [(32, .bool true), (33, .bool true)] hF (by kernel_rfl) fun a hF => ?_
      refine wpList_nil ?_
      refine hK6 _ _ ?_
      refine cT hF (by kernel_rfl) (by kernel_rfl) ?_
      refine wp_seq_k fun K20 hK20 => ?_
      refine wp_region_lit ?_
      refine sB 2 [(34, .agg #[.int .i64 0, .int .i64 0, .int .i64 0]), (10, .int .i64 0)] hF (by kernel_rfl) fun a hF => ?_
      refine wl (sStore (i := 4) (off := 0) (cs' := #[.int .i64 0, .int .i64 0, .int .i64 0]) hF hM (by kernel_rfl) rfl rfl (by kernel_rfl) (by kernel_rfl) rfl (by kernel_rfl) fun w hM => ?_)
      refine sB 1 [(12, .int .i64 2)] hF (by kernel_rfl) fun a hF => ?_
      refine wpList_nil ?_
      refine hK20 _ _ ?_
      refine wp_ret ?_
      refine hR0 _ _ ?_
      refine ret_of hF hM (.tmp rfl (.cell (i := 4) rfl rfl (v := .agg #[.int .i64 0, .int .i64 0, .int .i64 0]) (by kernel_rfl) (.tmp rfl (.nil)))) ?_
      have he : mkE cb cr pb ps la co pe at_ size = 2 := by unfold mkE; omega
      have hn : ¬ mkE cb cr pb ps la co pe at_ size = 0 := by omega
      refine ⟨ret_eq ?_, hM.bel⟩
      unfold mkCol mkL mkC mkP; rw [if_neg hn, if_neg hn, if_neg hn, if_neg hn, he]; rfl
    ·skip
     refine wp_region_lit ?_
     refine sB 2 [(24, .int .i64 at_), (25, .pointer (some ⟨bb3, 0, none⟩))] hF (by kernel_rfl) fun a hF => ?_
     refine wl (eL 26 3 0 (v := .int .i64 la) hF hM (by kernel_rfl) rfl rfl (by kernel_rfl) (by kernel_rfl) fun a w hF hM => ?_)
     refine wl (eM 27 (v := .bool true) hF hM (by kernel_rfl) (yld_call (f := 43) (args := #[.int .i64 at_, .int .i64 la, .int .i64 1099511627776]) hF (by kernel_rfl) (fun _ => by kernel_rfl) (fun w hM => in_yes at_ la 1099511627776 w hz5 hz6)) fun a w hF hM => ?_)
     refine sB 3 [(28, .bool false), (29, .bool false), (30, .int .i64 size)] hF (by kernel_rfl) fun a hF => ?_
     refine wl (eM 31 (v := .bool false) hF hM (by kernel_rfl) (yld_call (f := 43) (args := #[.int .i64 size, .int .i64 1, .int .i64 1048576]) hF (by kernel_rfl) (fun _ => by kernel_rfl) (fun w hM => in_no size 1 1048576 w (.inl hz7))) fun a w hF hM => ?_)
     refine sB 2 [(32, .bool true), (33, .bool true)] hF (by kernel_rfl) fun a hF => ?_
     refine wpList_nil ?_
     refine hK6 _ _ ?_
     refine cT hF (by kernel_rfl) (by kernel_rfl) ?_
     refine wp_seq_k fun K21 hK21 => ?_
     refine wp_region_lit ?_
     refine sB 2 [(34, .agg #[.int .i64 0, .int .i64 0, .int .i64 0]), (10, .int .i64 0)] hF (by kernel_rfl) fun a hF => ?_
     refine wl (sStore (i := 4) (off := 0) (cs' := #[.int .i64 0, .int .i64 0, .int .i64 0]) hF hM (by kernel_rfl) rfl rfl (by kernel_rfl) (by kernel_rfl) rfl (by kernel_rfl) fun w hM => ?_)
     refine sB 1 [(12, .int .i64 2)] hF (by kernel_rfl) fun a hF => ?_
     refine wpList_nil ?_
     refine hK21 _ _ ?_
     refine wp_ret ?_
     refine hR0 _ _ ?_
     refine ret_of hF hM (.tmp rfl (.cell (i := 4) rfl rfl (v := .agg #[.int .i64 0, .int .i64 0, .int .i64 0]) (by kernel_rfl) (.tmp rfl (.nil)))) ?_
     have he : mkE cb cr pb ps la co pe at_ size = 2 := by unfold mkE; omega
     have hn : ¬ mkE cb cr pb ps la co pe at_ size = 0 := by omega
     refine ⟨ret_eq ?_, hM.bel⟩
     unfold mkCol mkL mkC mkP; rw [if_neg hn, if_neg hn, if_neg hn, if_neg hn, he]; rfl
   ·skip
    refine wp_region_lit ?_
    refine sB 2 [(24, .int .i64 at_), (25, .pointer (some ⟨bb3, 0, none⟩))] hF (by kernel_rfl) fun a hF => ?_
    refine wl (eL 26 3 0 (v := .int .i64 la) hF hM (by kernel_rfl) rfl rfl (by kernel_rfl) (by kernel_rfl) fun a w hF hM => ?_)
    refine wl (eM 27 (v := .bool false) hF hM (by kernel_rfl) (yld_call (f := 43) (args := #[.int .i64 at_, .int .i64 la, .int .i64 1099511627776]) hF (by kernel_rfl) (fun _ => by kernel_rfl) (fun w hM => in_no at_ la 1099511627776 w (.inr hz6))) fun a w hF hM => ?_)
    refine sB 6 [(28, .bool true), (29, .bool true), (30, undef), (31, undef), (32, undef), (33, .bool true)] hF (by kernel_rfl) fun a hF => ?_
    refine wpList_nil ?_
    refine hK6 _ _ ?_
    refine cT hF (by kernel_rfl) (by kernel_rfl) ?_
    refine wp_seq_k fun K22 hK22 => ?_
    refine wp_region_lit ?_
    refine sB 2 [(34, .agg #[.int .i64 0, .int .i64 0, .int .i64 0]), (10, .int .i64 0)] hF (by kernel_rfl) fun a hF => ?_
    refine wl (sStore (i := 4) (off := 0) (cs' := #[.int .i64 0, .int .i64 0, .int .i64 0]) hF hM (by kernel_rfl) rfl rfl (by kernel_rfl) (by kernel_rfl) rfl (by kernel_rfl) fun w hM => ?_)
    refine sB 1 [(12, .int .i64 2)] hF (by kernel_rfl) fun a hF => ?_
    refine wpList_nil ?_
    refine hK22 _ _ ?_
    refine wp_ret ?_
    refine hR0 _ _ ?_
    refine ret_of hF hM (.tmp rfl (.cell (i := 4) rfl rfl (v := .agg #[.int .i64 0, .int .i64 0, .int .i64 0]) (by kernel_rfl) (.tmp rfl (.nil)))) ?_
    have he : mkE cb cr pb ps la co pe at_ size = 2 := by unfold mkE; omega
    have hn : ¬ mkE cb cr pb ps la co pe at_ size = 0 := by omega
    refine ⟨ret_eq ?_, hM.bel⟩
    unfold mkCol mkL mkC mkP; rw [if_neg hn, if_neg hn, if_neg hn, if_neg hn, he]; rfl
  ·skip
   refine wp_region_lit ?_
   refine sB 2 [(24, .int .i64 at_), (25, .pointer (some ⟨bb3, 0, none⟩))] hF (by kernel_rfl) fun a hF => ?_
   refine wl (eL 26 3 0 (v := .int .i64 la) hF hM (by kernel_rfl) rfl rfl (by kernel_rfl) (by kernel_rfl) fun a w hF hM => ?_)
   refine wl (eM 27 (v := .bool false) hF hM (by kernel_rfl) (yld_call (f := 43) (args := #[.int .i64 at_, .int .i64 la, .int .i64 1099511627776]) hF (by kernel_rfl) (fun _ => by kernel_rfl) (fun w hM => in_no at_ la 1099511627776 w (.inl hz5))) fun a w hF hM => ?_)
   refine sB 6 [(28, .bool true), (29, .bool true), (30, undef), (31, undef), (32, undef), (33, .bool true)] hF (by kernel_rfl) fun a hF => ?_
   refine wpList_nil ?_
   refine hK6 _ _ ?_
   refine cT hF (by kernel_rfl) (by kernel_rfl) ?_
   refine wp_seq_k fun K23 hK23 => ?_
   refine wp_region_lit ?_
   refine sB 2 [(34, .agg #[.int .i64 0, .int .i64 0, .int .i64 0]), (10, .int .i64 0)] hF (by kernel_rfl) fun a hF => ?_
   refine wl (sStore (i := 4) (off := 0) (cs' := #[.int .i64 0, .int .i64 0, .int .i64 0]) hF hM (by kernel_rfl) rfl rfl (by kernel_rfl) (by kernel_rfl) rfl (by kernel_rfl) fun w hM => ?_)
   refine sB 1 [(12, .int .i64 2)] hF (by kernel_rfl) fun a hF => ?_
   refine wpList_nil ?_
   refine hK23 _ _ ?_
   refine wp_ret ?_
   refine hR0 _ _ ?_
   refine ret_of hF hM (.tmp rfl (.cell (i := 4) rfl rfl (v := .agg #[.int .i64 0, .int .i64 0, .int .i64 0]) (by kernel_rfl) (.tmp rfl (.nil)))) ?_
   have he : mkE cb cr pb ps la co pe at_ size = 2 := by unfold mkE; omega
   have hn : ¬ mkE cb cr pb ps la co pe at_ size = 0 := by omega
   refine ⟨ret_eq ?_, hM.bel⟩
   unfold mkCol mkL mkC mkP; rw [if_neg hn, if_neg hn, if_neg hn, if_neg hn, he]; rfl
 ·skip
  replace hF := hF.c hF (i := 21) (v := .bool true) rfl (nF hz1)
  refine cT hF (by kernel_rfl) (by kernel_rfl) ?_
  refine wp_seq_k fun K24 hK24 => ?_
  refine wp_region_lit ?_
  refine sB 3 [(22, .agg #[.int .i64 0, .int .i64 0, .int .i64 0]), (23, .int .i64 (mtE cb cr pb ps la co pe)), (10, .int .i64 0)] hF (by kernel_rfl) fun a hF => ?_
  refine wl (sStore (i := 4) (off := 0) (cs' := #[.int .i64 0, .int .i64 0, .int .i64 0]) hF hM (by kernel_rfl) rfl rfl (by kernel_rfl) (by kernel_rfl) rfl (by kernel_rfl) fun w hM => ?_)
  refine sB 1 [(12, .int .i64 (mtE cb cr pb ps la co pe))] hF (by kernel_rfl) fun a hF => ?_
  refine wpList_nil ?_
  refine hK24 _ _ ?_
  refine wp_ret ?_
  refine hR0 _ _ ?_
  refine ret_of hF hM (.tmp rfl (.cell (i := 4) rfl rfl (v := .agg #[.int .i64 0, .int .i64 0, .int .i64 0]) (by kernel_rfl) (.tmp rfl (.nil)))) ?_
  have he : mkE cb cr pb ps la co pe at_ size = mtE cb cr pb ps la co pe := by unfold mkE; omega
  have hn : ¬ mkE cb cr pb ps la co pe at_ size = 0 := by omega
  refine ⟨ret_eq ?_, hM.bel⟩
  unfold mkCol mkL mkC mkP; rw [if_neg hn, if_neg hn, if_neg hn, if_neg hn, he]; rfl

end Go.Proofs.Ytogeficooemngaa
