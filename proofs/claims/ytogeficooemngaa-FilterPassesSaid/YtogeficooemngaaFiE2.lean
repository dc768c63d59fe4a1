/-
  The reference Right.
-/
import Derived.Test.YtogeficooemngaaFiE
namespace Go.Proofs.Ytogeficooemngaa
open Go.RowKit
set_option linter.unusedVariables false
set_option linter.unusedSimpArgs false

set_option maxRecDepth 100000 in
theorem raccept_w (ap ast ac asz ad ae al : Int) (w0 : World) :
    Calls Try.prog 28 #[.agg #[.int .i64 ap, .int .i64 ast, .int .i64 ac, .int .i64 asz, .int .i64 ad, .int .i64 ae, .int .i64 al]] w0 (Ret w0 (.bool (vaB ap ast ac asz ad ae al))) := by
 refine enterK 71 Try.func28 rfl rfl rfl ?_
 intro a hF Q0 hR0 hN0
 have hM := Mem.start w0
 refine wp_seq_k fun K1 hK1 => ?_
 refine wp_region_lit ?_
 refine wl (eN 1 1 (t := 57) (fun b => .pointer (some ⟨b, 0, none⟩)) #[.int .i64 ap, .int .i64 ast, .int .i64 ac, .int .i64 asz, .int .i64 ad, .int .i64 ae, .int .i64 al] hF hM (by kernel_rfl) (fun _ => by kernel_rfl) fun bb1 a w hF hM => ?_)
 refine sB 1 [(2, .bool false)] hF (by kernel_rfl) fun a hF => ?_
 refine wpList_nil ?_
 refine hK1 _ _ ?_
 refine wp_seq_k fun K2 hK2 => ?_
 refine wp_seq_k fun K3 hK3 => ?_
 by_cases hz1 : 0 ≤ ap
 ·skip
  by_cases hz2 : ap ≤ 47
  ·skip
   by_cases hz3 : 1 ≤ ast
   ·skip
    by_cases hz4 : ast ≤ 4095
    ·skip
     by_cases hz5 : 84 ≤ asz
     ·skip
      by_cases hz6 : asz ≤ 1542
      ·skip
       refine wp_region_lit ?_
       refine sB 1 [(3, .pointer (some ⟨bb1, 0, none⟩))] hF (by kernel_rfl) fun a hF => ?_
       refine wl (eL 4 1 0 (v := .int .i64 ap) hF hM (by kernel_rfl) rfl rfl (by kernel_rfl) (by kernel_rfl) fun a w hF hM => ?_)
       refine wl (eM 5 (v := .bool true) hF hM (by kernel_rfl) (yld_call (f := 27) (args := #[.int .i64 ap, .int .i64 0, .int .i64 47]) hF (by kernel_rfl) (fun _ => by kernel_rfl) (fun w hM => rin_yes ap 0 47 w hz1 hz2)) fun a w hF hM => ?_)
       refine sB 3 [(6, .bool false), (7, .bool false), (8, .pointer (some ⟨bb1, 1, none⟩))] hF (by kernel_rfl) fun a hF => ?_
       refine wl (eL 9 1 1 (v := .int .i64 ast) hF hM (by kernel_rfl) rfl rfl (by kernel_rfl) (by kernel_rfl) fun a w hF hM => ?_)
       refine wl (eM 10 (v := .bool true) hF hM (by kernel_rfl) (yld_call (f := 27) (args := #[.int .i64 ast, .int .i64 1, .int .i64 4095]) hF (by kernel_rfl) (fun _ => by kernel_rfl) (fun w hM => rin_yes ast 1 4095 w hz3 hz4)) fun a w hF hM => ?_)
       refine sB 4 [(11, .bool false), (12, .bool false), (13, .bool false), (14, .pointer (some ⟨bb1, 3, none⟩))] hF (by kernel_rfl) fun a hF => ?_
       refine wl (eL 15 1 3 (v := .int .i64 asz) hF hM (by kernel_rfl) rfl rfl (by kernel_rfl) (by kernel_rfl) fun a w hF hM => ?_)
       refine wl (eM 16 (v := .bool true) hF hM (by kernel_rfl) (yld_call (f := 27) (args := #[.int .i64 asz, .int .i64 84, .int .i64 1542]) hF (by kernel_rfl) (fun _ => by kernel_rfl) (fun w hM => rin_yes asz 84 1542 w hz5 hz6)) fun a w hF hM => ?_)
       refine sB 2 [(17, .bool false), (18, .bool false)] hF (by kernel_rfl) fun a hF => ?_
       refine wpList_nil ?_
       refine hK3 _ _ ?_
       refine cF hF (by kernel_rfl) (by kernel_rfl) ?_
       refine wp_skip ?_
       refine hK2 _ _ ?_
       refine wp_seq_k fun K4 hK4 => ?_
       refine wp_seq_k fun K5 hK5 => ?_
       refine wp_region_lit ?_
       refine sB 1 [(19, .pointer (some ⟨bb1, 2, none⟩))] hF (by kernel_rfl) fun a hF => ?_
       refine wl (eL 20 1 2 (v := .int .i64 ac) hF hM (by kernel_rfl) rfl rfl (by kernel_rfl) (by kernel_rfl) fun a w hF hM => ?_)
       refine sB 1 [(21, .bool (decide (ac = 6)))] hF (by kernel_rfl) fun a hF => ?_
       refine wpList_nil ?_
       refine hK5 _ _ ?_
       by_cases hz7 : ac = 6
       ·skip
        replace hF := hF.c hF (i := 21) (v := .bool true) rfl (bT hz7)
        refine cT hF (by kernel_rfl) (by kernel_rfl) ?_
        refine wp_seq_k fun K6 hK6 => ?_
        by_cases hz8 : ad = 0
        ·skip
         by_cases hz9 : ae = 0
         ·skip
          refine wp_region_lit ?_
          refine sB 1 [(22, .pointer (some ⟨bb1, 4, none⟩))] hF (by kernel_rfl) fun a hF => ?_
          refine wl (eL 23 1 4 (v := .int .i64 ad) hF hM (by kernel_rfl) rfl rfl (by kernel_rfl) (by kernel_rfl) fun a w hF hM => ?_)
          refine wl (eP 24 (v0 := .bool (decide (ad = 0))) (v := .bool true) hF (by kernel_rfl) (fun _ => by kernel_rfl) (bT hz8) fun a hF => ?_)
          refine sB 2 [(25, .bool true), (26, .pointer (some ⟨bb1, 5, none⟩))] hF (by kernel_rfl) fun a hF => ?_
          refine wl (eL 27 1 5 (v := .int .i64 ae) hF hM (by kernel_rfl) rfl rfl (by kernel_rfl) (by kernel_rfl) fun a w hF hM => ?_)
          refine wl (eP 28 (v0 := .bool (decide (ae = 0))) (v := .bool true) hF (by kernel_rfl) (fun _ => by kernel_rfl) (bT hz9) fun a hF => ?_)
          refine sB 3 [(29, .bool true), (30, .bool true), (31, .pointer (some ⟨bb1, 6, none⟩))] hF (by kernel_rfl) fun a hF => ?_
          refine wl (eL 32 1 6 (v := .int .i64 al) hF hM (by kernel_rfl) rfl rfl (by kernel_rfl) (by kernel_rfl) fun a w hF hM => ?_)
          refine sB 3 [(33, .bool (decide (al = 0))), (34, .bool (decide (al = 0))), (2, .bool (decide (al = 0)))] hF (by kernel_rfl) fun a hF => ?_
          refine wpList_nil ?_
          refine hK6 _ _ ?_
          refine wp_ret ?_
          refine hR0 _ _ ?_
          refine ret_of hF hM (.tmp rfl (.nil)) ?_
          exact ⟨ret_bool (va_dec (by unfold vaP; (try simp only [List.cons.injEq, and_true, true_and]); omega)), hM.bel⟩
         ·skip
          refine wp_region_lit ?_
          refine sB 1 [(22, .pointer (some ⟨bb1, 4, none⟩))] hF (by kernel_rfl) fun a hF => ?_
          refine wl (eL 23 1 4 (v := .int .i64 ad) hF hM (by kernel_rfl) rfl rfl (by kernel_rfl) (by kernel_rfl) fun a w hF hM => ?_)
          refine wl (eP 24 (v0 := .bool (decide (ad = 0))) (v := .bool true) hF (by kernel_rfl) (fun _ => by kernel_rfl) (bT hz8) fun a hF => ?_)
          refine sB 2 [(25, .bool true), (26, .pointer (some ⟨bb1, 5, none⟩))] hF (by kernel_rfl) fun a hF => ?_
          refine wl (eL 27 1 5 (v := .int .i64 ae) hF hM (by kernel_rfl) rfl rfl (by kernel_rfl) (by kernel_rfl) fun a w hF hM => ?_)
          refine wl (eP 28 (v0 := .bool (decide (ae = 0))) (v := .bool false) hF (by kernel_rfl) (fun _ => by kernel_rfl) (bF hz9) fun a hF => ?_)
          refine sB 7 [(29, .bool false), (30, .bool false), (31, undef), (32, undef), (33, undef), (34, .bool false), (2, .bool false)] hF (by kernel_rfl) fun a hF => ?_
          refine wpList_nil ?_
          refine hK6 _ _ ?_
          refine wp_ret ?_
          refine hR0 _ _ ?_
          refine ret_of hF hM (.tmp rfl (.nil)) ?_
          exact ⟨ret_bool (va_no (by unfold vaP; omega)), hM.bel⟩
        ·skip
         refine wp_region_lit ?_
         refine sB 1 [(22, .pointer (some ⟨bb1, 4, none⟩))] hF (by kernel_rfl) fun a hF => ?_
         refine wl (eL 23 1 4 (v := .int .i64 ad) hF hM (by kernel_rfl) rfl rfl (by kernel_rfl) (by kernel_rfl) fun a w hF hM => ?_)
         refine wl (eP 24 (v0 := .bool (decide (ad = 0))) (v := .bool false) hF (by kernel_rfl) (fun _ => by kernel_rfl) (bF hz8) fun a hF => ?_)
         refine sB 11 [(25, .bool false), (26, undef), (27, undef), (28, undef), (29, .bool false), (30, .bool false), (31, undef), (32, undef), (33, undef), (34, .bool false), (2, .bool false)] hF (by kernel_rfl) fun a hF => ?_
         refine wpList_nil ?_
         refine hK6 _ _ ?_
         refine wp_ret ?_
         refine hR0 _ _ ?_
         refine ret_of hF hM (.tmp rfl (.nil)) ?_
         exact ⟨ret_bool (va_no (by unfold vaP; omega)), hM.bel⟩
       ·skip
        replace hF := hF.c hF (i := 21) (v := .bool false) rfl (bF hz7)
        refine cF hF (by kernel_rfl) (by kernel_rfl) ?_
        refine wp_skip ?_
        refine hK4 _ _ ?_
        refine wp_seq_k fun K7 hK7 => ?_
        refine wp_seq_k fun K8 hK8 => ?_
        by_cases hz10 : ac = 7
        ·skip
         by_cases hz11 : 1 ≤ ad
         ·skip
          by_cases hz12 : ad ≤ 2400000
          ·skip
           by_cases hz13 : -1099511627776 ≤ ae
           ·skip
            by_cases hz14 : ae ≤ 1099511627776
            ·skip
             by_cases hz15 : -1099511627776 ≤ al
             ·skip
              by_cases hz16 : al ≤ 1099511627776
              ·skip
               refine wp_region_lit ?_
               refine sB 1 [(35, .pointer (some ⟨bb1, 2, none⟩))] hF (by kernel_rfl) fun a hF => ?_
               refine wl (eL 36 1 2 (v := .int .i64 ac) hF hM (by kernel_rfl) rfl rfl (by kernel_rfl) (by kernel_rfl) fun a w hF hM => ?_)
               refine wl (eP 37 (v0 := .bool (!decide (ac = 7))) (v := .bool false) hF (by kernel_rfl) (fun _ => by kernel_rfl) (nT hz10) fun a hF => ?_)
               refine sB 2 [(38, .bool false), (39, .pointer (some ⟨bb1, 4, none⟩))] hF (by kernel_rfl) fun a hF => ?_
               refine wl (eL 40 1 4 (v := .int .i64 ad) hF hM (by kernel_rfl) rfl rfl (by kernel_rfl) (by kernel_rfl) fun a w hF hM => ?_)
               refine wl (eM 41 (v := .bool true) hF hM (by kernel_rfl) (yld_call (f := 27) (args := #[.int .i64 ad, .int .i64 1, .int .i64 2400000]) hF (by kernel_rfl) (fun _ => by kernel_rfl) (fun w hM => rin_yes ad 1 2400000 w hz11 hz12)) fun a w hF hM => ?_)
               refine sB 4 [(42, .bool false), (43, .bool false), (44, .bool false), (45, .pointer (some ⟨bb1, 5, none⟩))] hF (by kernel_rfl) fun a hF => ?_
               refine wl (eL 46 1 5 (v := .int .i64 ae) hF hM (by kernel_rfl) rfl rfl (by kernel_rfl) (by kernel_rfl) fun a w hF hM => ?_)
               refine wl (eM 47 (v := .bool true) hF hM (by kernel_rfl) (yld_call (f := 27) (args := #[.int .i64 ae, .int .i64 (-1099511627776), .int .i64 1099511627776]) hF (by kernel_rfl) (fun _ => by kernel_rfl) (fun w hM => rin_yes ae (-1099511627776) 1099511627776 w hz13 hz14)) fun a w hF hM => ?_)
               refine sB 4 [(48, .bool false), (49, .bool false), (50, .bool false), (51, .pointer (some ⟨bb1, 6, none⟩))] hF (by kernel_rfl) fun a hF => ?_
               refine wl (eL 52 1 6 (v := .int .i64 al) hF hM (by kernel_rfl) rfl rfl (by kernel_rfl) (by kernel_rfl) fun a w hF hM => ?_)
               refine wl (eM 53 (v := .bool true) hF hM (by kernel_rfl) (yld_call (f := 27) (args := #[.int .i64 al, .int .i64 (-1099511627776), .int .i64 1099511627776]) hF (by kernel_rfl) (fun _ => by kernel_rfl) (fun w hM => rin_yes al (-1099511627776) 1099511627776 w hz15 hz16)) fun a w hF hM => ?_)
               refine sB 2 [(54, .bool false), (55, .bool false)] hF (by kernel_rfl) fun a hF => ?_
               refine wpList_nil ?_
               refine hK8 _ _ ?_
               refine cF hF (by kernel_rfl) (by kernel_rfl) ?_
               refine wp_skip ?_
               refine hK7 _ _ ?_
               refine wp_seq_k fun K9 hK9 => ?_
               by_cases hz17 : ae ≤ al
               ·skip
                refine wp_region_lit ?_
                refine sB 1 [(56, .pointer (some ⟨bb1, 6, none⟩))] hF (by kernel_rfl) fun a hF => ?_
                refine wl (eL 57 1 6 (v := .int .i64 al) hF hM (by kernel_rfl) rfl rfl (by kernel_rfl) (by kernel_rfl) fun a w hF hM => ?_)
                refine sB 1 [(58, .pointer (some ⟨bb1, 5, none⟩))] hF (by kernel_rfl) fun a hF => ?_
                refine wl (eL 59 1 5 (v := .int .i64 ae) hF hM (by kernel_rfl) rfl rfl (by kernel_rfl) (by kernel_rfl) fun a w hF hM => ?_)
                refine wl (eP 60 (v0 := .bool (decide (ae ≤ al))) (v := .bool true) hF (by kernel_rfl) (fun _ => by kernel_rfl) (bT hz17) fun a hF => ?_)
                refine sB 2 [(61, .bool true), (62, .pointer (some ⟨bb1, 6, none⟩))] hF (by kernel_rfl) fun a hF => ?_
                refine wl (eL 63 1 6 (v := .int .i64 al) hF hM (by kernel_rfl) rfl rfl (by kernel_rfl) (by kernel_rfl) fun a w hF hM => ?_)
                refine sB 1 [(64, .pointer (some ⟨bb1, 5, none⟩))] hF (by kernel_rfl) fun a hF => ?_
                refine wl (eL 65 1 5 (v := .int .i64 ae) hF hM (by kernel_rfl) rfl rfl (by kernel_rfl) (by kernel_rfl) fun a w hF hM => ?_)
                refine wl (eP 66 (v0 := .int .i64 (IntKind.i64.wrap (al - ae))) (v := .int .i64 (al - ae)) hF (by kernel_rfl) (fun _ => by kernel_rfl) (wi (by omega)) fun a hF => ?_)
                refine sB 1 [(67, .pointer (some ⟨bb1, 4, none⟩))] hF (by kernel_rfl) fun a hF => ?_
                refine wl (eL 68 1 4 (v := .int .i64 ad) hF hM (by kernel_rfl) rfl rfl (by kernel_rfl) (by kernel_rfl) fun a w hF hM => ?_)
                refine sB 3 [(69, .bool (decide (al - ae < ad))), (70, .bool (decide (al - ae < ad))), (2, .bool (decide (al - ae < ad)))] hF (by kernel_rfl) fun a hF => ?_
                refine wpList_nil ?_
                refine hK9 _ _ ?_
                refine wp_ret ?_
                refine hR0 _ _ ?_
                refine ret_of hF hM (.tmp rfl (.nil)) ?_
                exact ⟨ret_bool (va_dec (by unfold vaP; (try simp only [List.cons.injEq, and_true, true_and]); omega)), hM.bel⟩
               ·skip
                refine wp_region_lit ?_
                refine sB 1 [(56, .pointer (some ⟨bb1, 6, none⟩))] hF (by kernel_rfl) fun a hF => ?_
                refine wl (eL 57 1 6 (v := .int .i64 al) hF hM (by kernel_rfl) rfl rfl (by kernel_rfl) (by kernel_rfl) fun a w hF hM => ?_)
                refine sB 1 [(58, .pointer (some ⟨bb1, 5, none⟩))] hF (by kernel_rfl) fun a hF => ?_
                refine wl (eL 59 1 5 (v := .int .i64 ae) hF hM (by kernel_rfl) rfl rfl (by kernel_rfl) (by kernel_rfl) fun a w hF hM => ?_)
                refine wl (eP 60 (v0 := .bool (decide (ae ≤ al))) (v := .bool false) hF (by kernel_rfl) (fun _ => by kernel_rfl) (bF hz17) fun a hF => ?_)
                refine sB 11 [(61, .bool false), (62, undef), (63, undef), (64, undef), (65, undef), (66, undef), (67, undef), (68, undef), (69, undef), (70, .bool false), (2, .bool false)] hF (by kernel_rfl) fun a hF => ?_
                refine wpList_nil ?_
                refine hK9 _ _ ?_
                refine wp_ret ?_
                refine hR0 _ _ ?_
                refine ret_of hF hM (.tmp rfl (.nil)) ?_
                exact ⟨ret_bool (va_no (by unfold vaP; omega)), hM.bel⟩
              ·skip
               refine wp_region_lit ?_
               refine sB 1 [(35, .pointer (some ⟨bb1, 2, none⟩))] hF (by kernel_rfl) fun a hF => ?_
               refine wl (eL 36 1 2 (v := .int .i64 ac) hF hM (by kernel_rfl) rfl rfl (by kernel_rfl) (by kernel_rfl) fun a w hF hM => ?_)
               refine wl (eP 37 (v0 := .bool (!decide (ac = 7))) (v := .bool false) hF (by kernel_rfl) (fun _ => by kernel_rfl) (nT hz10) fun a hF => ?_)
               refine sB 2 [(38, .bool false), (39, .pointer (some ⟨bb1, 4, none⟩))] hF (by kernel_rfl) fun a hF => ?_
               refine wl (eL 40 1 4 (v := .int .i64 ad) hF hM (by kernel_rfl) rfl rfl (by kernel_rfl) (by kernel_rfl) fun a w hF hM => ?_)
               refine wl (eM 41 (v := .bool true) hF hM (by kernel_rfl) (yld_call (f := 27) (args := #[.int .i64 ad, .int .i64 1, .int .i64 2400000]) hF (by kernel_rfl) (fun _ => by kernel_rfl) (fun w hM => rin_yes ad 1 2400000 w hz11 hz12)) fun a w hF hM => ?_)
               refine sB 4 [(42, .bool false), (43, .bool false), (44, .bool false), (45, .pointer (some ⟨bb1, 5, none⟩))] hF (by kernel_rfl) fun a hF => ?_
               refine wl (eL 46 1 5 (v := .int .i64 ae) hF hM (by kernel_rfl) rfl rfl (by kernel_rfl) (by kernel_rfl) fun a w hF hM => ?_)
               refine wl (eM 47 (v := .bool true) hF hM (by kernel_rfl) (yld_call (f := 27) (args := #[.int .i64 ae, .int .i64 (-1099511627776), .int .i64 1099511627776]) hF (by kernel_rfl) (fun _ => by kernel_rfl) (fun w hM => rin_yes ae (-1099511627776) 1099511627776 w hz13 hz14)) fun a w hF hM => ?_)
               refine sB 4 [(48, .bool false), (49, .bool false), (50, .bool false), (51, .pointer (some ⟨bb1, 6, none⟩))] hF (by kernel_rfl) fun a hF => ?_
               refine wl (eL 52 1 6 (v := .int .i64 al) hF hM (by kernel_rfl) rfl rfl (by kernel_rfl) (by kernel_rfl) fun a w hF hM => ?_)
               refine wl (eM 53 (v := .bool false) hF hM (by kernel_rfl) (yld_call (f := 27) (args := #[.int .i64 al, .int .i64 (-1099511627776), .int .i64 1099511627776]) hF (by kernel_rfl) (fun _ => by kernel_rfl) (fun w hM => rin_no al (-1099511627776) 1099511627776 w (.inr hz16))) fun a w hF hM => ?_)
               refine sB 2 [(54, .bool true), (55, .bool true)] hF (by kernel_rfl) fun a hF => ?_
               refine wpList_nil ?_
               refine hK8 _ _ ?_
               refine cT hF (by kernel_rfl) (by kernel_rfl) ?_
               refine wp_seq_k fun K10 hK10 => ?_
               refine wp_region_lit ?_
               refine sB 1 [(2, .bool false)] hF (by kernel_rfl) fun a hF => ?_
               refine wpList_nil ?_
               refine hK10 _ _ ?_
               refine wp_ret ?_
               refine hR0 _ _ ?_
               refine ret_of hF hM (.tmp rfl (.nil)) ?_
               exact ⟨ret_bool (va_no (by unfold vaP; omega)), hM.bel⟩
             ·skip
              refine wp_region_lit ?_
              refine sB 1 [(35, .pointer (some ⟨bb1, 2, none⟩))] hF (by kernel_rfl) fun a hF => ?_
              refine wl (eL 36 1 2 (v := .int .i64 ac) hF hM (by kernel_rfl) rfl rfl (by kernel_rfl) (by kernel_rfl) fun a w hF hM => ?_)
              refine wl (eP 37 (v0 := .bool (!decide (ac = 7))) (v := .bool false) hF (by kernel_rfl) (fun _ => by kernel_rfl) (nT hz10) fun a hF => ?_)
              refine sB 2 [(38, .bool false), (39, .pointer (some ⟨bb1, 4, none⟩))] hF (by kernel_rfl) fun a hF => ?_
              refine wl (eL 40 1 4 (v := .int .i64 ad) hF hM (by kernel_rfl) rfl rfl (by kernel_rfl) (by kernel_rfl) fun a w hF hM => ?_)
              refine wl (eM 41 (v := .bool true) hF hM (by kernel_rfl) (yld_call (f := 27) (args := #[.int .i64 ad, .int .i64 1, .int .i64 2400000]) hF (by kernel_rfl) (fun _ => by kernel_rfl) (fun w hM => rin_yes ad 1 2400000 w hz11 hz12)) fun a w hF hM => ?_)
              refine sB 4 [(42, .bool false), (43, .bool false), (44, .bool false), (45, .pointer (some ⟨bb1, 5, none⟩))] hF (by kernel_rfl) fun a hF => ?_
              refine wl (eL 46 1 5 (v := .int .i64 ae) hF hM (by kernel_rfl) rfl rfl (by kernel_rfl) (by kernel_rfl) fun a w hF hM => ?_)
              refine wl (eM 47 (v := .bool true) hF hM (by kernel_rfl) (yld_call (f := 27) (args := #[.int .i64 ae, .int .i64 (-1099511627776), .int .i64 1099511627776]) hF (by kernel_rfl) (fun _ => by kernel_rfl) (fun w hM => rin_yes ae (-1099511627776) 1099511627776 w hz13 hz14)) fun a w hF hM => ?_)
              refine sB 4 [(48, .bool false), (49, .bool false), (50, .bool false), (51, .pointer (some ⟨bb1, 6, none⟩))] hF (by kernel_rfl) fun a hF => ?_
              refine wl (eL 52 1 6 (v := .int .i64 al) hF hM (by kernel_rfl) rfl rfl (by kernel_rfl) (by kernel_rfl) fun a w hF hM => ?_)
              refine wl (eM 53 (v := .bool false) hF hM (by kernel_rfl) (yld_call (f := 27) (args := #[.int .i64 al, .int .i64 (-1099511627776), .int .i64 1099511627776]) hF (by kernel_rfl) (fun _ => by kernel_rfl) (fun w hM => rin_no al (-1099511627776) 1099511627776 w (.inl hz15))) fun a w hF hM => ?_)
              refine sB 2 [(54, .bool true), (55, .bool true)] hF (by kernel_rfl) fun a hF => ?_
              refine wpList_nil ?_
              refine hK8 _ _ ?_
              refine cT hF (by kernel_rfl) (by kernel_rfl) ?_
              refine wp_seq_k fun K11 hK11 => ?_
              refine wp_region_lit ?_
              refine sB 1 [(2, .bool false)] hF (by kernel_rfl) fun a hF => ?_
              refine wpList_nil ?_
              refine hK11 _ _ ?_
              refine wp_ret ?_
              refine hR0 _ _ ?_
              refine ret_of hF hM (.tmp rfl (.nil)) ?_
              exact ⟨ret_bool (va_no (by unfold vaP; omega)), hM.bel⟩
            ·skip
             refine wp_region_lit ?_
             refine sB 1 [(35, .pointer (some ⟨bb1, 2, none⟩))] hF (by kernel_rfl) fun a hF => ?_
             refine wl (eL 36 1 2 (v := .int .i64 ac) hF hM (by kernel_rfl) rfl rfl (by kernel_rfl) (by kernel_rfl) fun a w hF hM => ?_)
             refine wl (eP 37 (v0 := .bool (!decide (ac = 7))) (v := .bool false) hF (by kernel_rfl) (fun _ => by kernel_rfl) (nT hz10) fun a hF => ?_)
             refine sB 2 [(38, .bool false), (39, .pointer (some ⟨bb1, 4, none⟩))] hF (by kernel_rfl) fun a hF => ?_
             refine wl (eL 40 1 4 (v := .int .i64 ad) hF hM (by kernel_rfl) rfl rfl (by kernel_rfl) (by kernel_rfl) fun a w hF hM => ?_)
             refine wl (eM 41 (v := .bool true) hF hM (by kernel_rfl) (yld_call (f := 27) (args := #[.int .i64 ad, .int .i64 1, .int .i64 2400000]) hF (by kernel_rfl) (fun _ => by kernel_rfl) (fun w hM => rin_yes ad 1 2400000 w hz11 hz12)) fun a w hF hM => ?_)
             refine sB 4 [(42, .bool false), (43, .bool false), (44, .bool false), (45, .pointer (some ⟨bb1, 5, none⟩))] hF (by kernel_rfl) fun a hF => ?_
             refine wl (eL 46 1 5 (v := .int .i64 ae) hF hM (by kernel_rfl) rfl rfl (by kernel_rfl) (by kernel_rfl) fun a w hF hM => ?_)
             refine wl (eM 47 (v := .bool false) hF hM (by kernel_rfl) (yld_call (f := 27) (args := #[.int .i64 ae, .int .i64 (-1099511627776), .int .i64 1099511627776]) hF (by kernel_rfl) (fun _ => by kernel_rfl) (fun w hM => rin_no ae (-1099511627776) 1099511627776 w (.inr hz14))) fun a w hF hM => ?_)
             refine sB 8 [(48, .bool true), (49, .bool true), (50, .bool true), (51, undef), (52, undef), (53, undef), (54, undef), (55, .bool true)] hF (by kernel_rfl) fun a hF => ?_
             refine wpList_nil ?_
             refine hK8 _ _ ?_
             refine cT hF (by kernel_rfl) (by kernel_rfl) ?_
             refine wp_seq_k fun K12 hK12 => ?_
             refine wp_region_lit ?_
             refine sB 1 [(2, .bool false)] hF (by kernel_rfl) fun a hF => ?_
             refine wpList_nil ?_
             refine hK12 _ _ ?_
             refine wp_ret ?_
             refine hR0 _ _ ?_
             refine ret_of hF hM (.tmp rfl (.nil)) ?_
             exact ⟨ret_bool (va_no (by unfold vaP; omega)), hM.bel⟩
           ·skip
            refine wp_region_lit ?_
            refine sB 1 [(35, .pointer (some ⟨bb1, 2, none⟩))] hF (by kernel_rfl) fun a hF => ?_
            refine wl (eL 36 1 2 (v := .int .i64 ac) hF hM (by kernel_rfl) rfl rfl (by kernel_rfl) (by kernel_rfl) fun a w hF hM => ?_)
            refine wl (eP 37 (v0 := .bool (!decide (ac = 7))) (v := .bool false) hF (by kernel_rfl) (fun _ => by kernel_rfl) (nT hz10) fun a hF => ?_)
            refine sB 2 [(38, .bool false), (39, .pointer (some ⟨bb1, 4, none⟩))] hF (by kernel_rfl) fun a hF => ?_
            refine wl (eL 40 1 4 (v := .int .i64 ad) hF hM (by kernel_rfl) rfl rfl (by kernel_rfl) (by kernel_rfl) fun a w hF hM => ?_)
            refine wl (eM 41 (v := .bool true) hF hM (by kernel_rfl) (yld_call (f := 27) (args := #[.int .i64 ad, .int .i64 1, .int .i64 2400000]) hF (by kernel_rfl) (fun _ => by kernel_rfl) (fun w hM => rin_yes ad 1 2400000 w hz11 hz12)) fun a w hF hM => ?_)
            refine sB 4 [(42, .bool false), (43, .bool false), (44, .bool false), (45, .pointer (some ⟨bb1, 5, none⟩))] hF (by kernel_rfl) fun a hF => ?_
            refine wl (eL 46 1 5 (v := .int .i64 ae) hF hM (by kernel_rfl) rfl rfl (by kernel_rfl) (by kernel_rfl) fun a w hF hM => ?_)
            refine wl (eM 47 (v := .bool false) hF hM (by kernel_rfl) (yld_call (f := 27) (args := #[.int .i64 ae, .int .i64 (-1099511627776), .int .i64 1099511627776]) hF (by kernel_rfl) (fun _ => by kernel_rfl) (fun w hM => rin_no ae (-1099511627776) 1099511627776 w (.inl hz13))) fun a w hF hM => ?_)
            refine sB 8 [(48, .bool true), (49, .bool true), (50, .bool true), (51, undef), (52, undef), (53, undef), (54, undef), (55, .bool true)] hF (by kernel_rfl) fun a hF => ?_
            refine wpList_nil ?_
            refine hK8 _ _ ?_
            refine cT hF (by kernel_rfl) (by kernel_rfl) ?_
            refine wp_seq_k fun K13 hK13 => ?_
            refine wp_region_lit ?_
            refine sB 1 [(2, .bool false)] hF (by kernel_rfl) fun a hF => ?_
            refine wpList_nil ?_
            refine hK13 _ _ ?_
            refine wp_ret ?_
            refine hR0 _ _ ?_
            refine ret_of hF hM (.tmp rfl (.nil)) ?_
            exact ⟨ret_bool (va_no (by unfold vaP; omega)), hM.bel⟩
          ·skip
           refine wp_region_lit ?_
           refine sB 1 [(35, .pointer (some ⟨bb1, 2, none⟩))] hF (by kernel_rfl) fun a hF => ?_
           refine wl (eL 36 1 2 (v := .int .i64 ac) hF hM (by kernel_rfl) rfl rfl (by kernel_rfl) (by kernel_rfl) fun a w hF hM => ?_)
           refine wl (eP 37 (v0 := .bool (!decide (ac = 7))) (v := .bool false) hF (by kernel_rfl) (fun _ => by kernel_rfl) (nT hz10) fun a hF => ?_)
           refine sB 2 [(38, .bool false), (39, .pointer (some ⟨bb1, 4, none⟩))] hF (by kernel_rfl) fun a hF => ?_
           refine wl (eL 40 1 4 (v := .int .i64 ad) hF hM (by kernel_rfl) rfl rfl (by kernel_rfl) (by kernel_rfl) fun a w hF hM => ?_)
           refine wl (eM 41 (v := .bool false) hF hM (by kernel_rfl) (yld_call (f := 27) (args := #[.int .i64 ad, .int .i64 1, .int .i64 2400000]) hF (by kernel_rfl) (fun _ => by kernel_rfl) (fun w hM => rin_no ad 1 2400000 w (.inr hz12))) fun a w hF hM => ?_)
           refine sB 14 [(42, .bool true), (43, .bool true), (44, .bool true), (45, undef), (46, undef), (47, undef), (48, undef), (49, .bool true), (50, .bool true), (51, undef), (52, undef), (53, undef), (54, undef), (55, .bool true)] hF (by kernel_rfl) fun a hF => ?_
           refine wpList_nil ?_
           refine hK8 _ _ ?_
           refine cT hF (by kernel_rfl) (by kernel_rfl) ?_
           refine wp_seq_k fun K14 hK14 => ?_
           refine wp_region_lit ?_
           refine sB 1 [(2, .bool false)] hF (by kernel_rfl) fun a hF => ?_
           refine wpList_nil ?_
           refine hK14 _ _ ?_
           refine wp_ret ?_
           refine hR0 _ _ ?_
           refine ret_of hF hM (.tmp rfl (.nil)) ?_
           exact ⟨ret_bool (va_no (by unfold vaP; omega)), hM.bel⟩
         ·skip
          refine wp_region_lit ?_
          refine sB 1 [(35, .pointer (some ⟨bb1, 2, none⟩))] hF (by kernel_rfl) fun a hF => ?_
          refine wl (eL 36 1 2 (v := .int .i64 ac) hF hM (by kernel_rfl) rfl rfl (by kernel_rfl) (by kernel_rfl) fun a w hF hM => ?_)
          refine wl (eP 37 (v0 := .bool (!decide (ac = 7))) (v := .bool false) hF (by kernel_rfl) (fun _ => by kernel_rfl) (nT hz10) fun a hF => ?_)
          refine sB 2 [(38, .bool false), (39, .pointer (some ⟨bb1, 4, none⟩))] hF (by kernel_rfl) fun a hF => ?_
          refine wl (eL 40 1 4 (v := .int .i64 ad) hF hM (by kernel_rfl) rfl rfl (by kernel_rfl) (by kernel_rfl) fun a w hF hM => ?_)
          refine wl (eM 41 (v := .bool false) hF hM (by kernel_rfl) (yld_call (f := 27) (args := #[.int .i64 ad, .int .i64 1, .int .i64 2400000]) hF (by kernel_rfl) (fun _ => by kernel_rfl) (fun w hM => rin_no ad 1 2400000 w (.inl hz11))) fun a w hF hM => ?_)
          refine sB 14 [(42, .bool true), (43, .bool true), (44, .bool true), (45, undef), (46, undef), (47, undef), (48, undef), (49, .bool true), (50, .bool true), (51, undef), (52, undef), (53, undef), (54, undef), (55, .bool true)] hF (by kernel_rfl) fun a hF => ?_
          refine wpList_nil ?_
          refine hK8 _ _ ?_
          refine cT hF (by kernel_rfl) (by kernel_rfl) ?_
          refine wp_seq_k fun K15 hK15 => ?_
          refine wp_region_lit ?_
          refine sB 1 [(2, .bool false)] hF (by kernel_rfl) fun a hF => ?_
          refine wpList_nil ?_
          refine hK15 _ _ ?_
          refine wp_ret ?_
          refine hR0 _ _ ?_
          refine ret_of hF hM (.tmp rfl (.nil)) ?_
          exact ⟨ret_bool (va_no (by unfold vaP; omega)), hM.bel⟩
        ·skip
         refine wp_region_lit ?_
         refine sB 1 [(35, .pointer (some ⟨bb1, 2, none⟩))] hF (by kernel_rfl) fun a hF => ?_
         refine wl (eL 36 1 2 (v := .int .i64 ac) hF hM (by kernel_rfl) rfl rfl (by kernel_rfl) (by kernel_rfl) fun a w hF hM => ?_)
         refine wl (eP 37 (v0 := .bool (!decide (ac = 7))) (v := .bool true) hF (by kernel_rfl) (fun _ => by kernel_rfl) (nF hz10) fun a hF => ?_)
         refine sB 18 [(38, .bool true), (39, undef), (40, undef), (41, undef), (42, undef), (43, .bool true), (44, .bool true), (45, undef), (46, undef), (47, undef), (48, undef), (49, .bool true), (50, .bool true), (51, undef), (52, undef), (53, undef), (54, undef), (55, .bool true)] hF (by kernel_rfl) fun a hF => ?_
         refine wpList_nil ?_
         refine hK8 _ _ ?_
         refine cT hF (by kernel_rfl) (by kernel_rfl) ?_
         refine wp_seq_k fun K16 hK16 => ?_
         refine wp_region_lit ?_
         refine sB 1 [(2, .bool false)] hF (by kernel_rfl) fun a hF => ?_
         refine wpList_nil ?_
         refine hK16 _ _ ?_
         refine wp_ret ?_
         refine hR0 _ _ ?_
         refine ret_of hF hM (.tmp rfl (.nil)) ?_
         exact ⟨ret_bool (va_no (by unfold vaP; omega)), hM.bel⟩
      ·skip
       refine wp_region_lit ?_
       refine sB 1 [(3, .pointer (some ⟨bb1, 0, none⟩))] hF (by kernel_rfl) fun a hF => ?_
       refine wl (eL 4 1 0 (v := .int .i64 ap) hF hM (by kernel_rfl) rfl rfl (by kernel_rfl) (by kernel_rfl) fun a w hF hM => ?_)
       refine wl (eM 5 (v := .bool true) hF hM (by kernel_rfl) (yld_call (f := 27) (args := #[.int .i64 ap, .int .i64 0, .int .i64 47]) hF (by kernel_rfl) (fun _ => by kernel_rfl) (fun w hM => rin_yes ap 0 47 w hz1 hz2)) fun a w hF hM => ?_)
       refine sB 3 [(6, .bool false), (7, .bool false), (8, .pointer (some ⟨bb1, 1, none⟩))] hF (by kernel_rfl) fun a hF => ?_
       refine wl (eL 9 1 1 (v := .int .i64 ast) hF hM (by kernel_rfl) rfl rfl (by kernel_rfl) (by kernel_rfl) fun a w hF hM => ?_)
       refine wl (eM 10 (v := .bool true) hF hM (by kernel_rfl) (yld_call (f := 27) (args := #[.int .i64 ast, .int .i64 1, .int .i64 4095]) hF (by kernel_rfl) (fun _ => by kernel_rfl) (fun w hM => rin_yes ast 1 4095 w hz3 hz4)) fun a w hF hM => ?_)
       refine sB 4 [(11, .bool false), (12, .bool false), (13, .bool false), (14, .pointer (some ⟨bb1, 3, none⟩))] hF (by kernel_rfl) fun a hF => ?_
       refine wl (eL 15 1 3 (v := .int .i64 asz) hF hM (by kernel_rfl) rfl rfl (by kernel_rfl) (by kernel_rfl) fun a w hF hM => ?_)
       refine wl (eM 16 (v := .bool false) hF hM (by kernel_rfl) (yld_call (f := 27) (args := #[.int .i64 asz, .int .i64 84, .int .i64 1542]) hF (by kernel_rfl) (fun _ => by kernel_rfl) (fun w hM => rin_no asz 84 1542 w (.inr hz6))) fun a w hF hM => ?_)
       refine sB 2 [(17, .bool true), (18, .bool true)] hF (by kernel_rfl) fun a hF => ?_
       refine wpList_nil ?_
       refine hK3 _ _ ?_
       refine cT hF (by kernel_rfl) (by kernel_rfl) ?_
       refine wp_seq_k fun K17 hK17 => ?_
       refine wp_region_lit ?_
       refine sB 1 [(2, .bool false)] hF (by kernel_rfl) fun a hF => ?_
       refine wpList_nil ?_
       refine hK17 _ _ ?_
       refine wp_ret ?_
       refine hR0 _ _ ?_
       refine ret_of hF hM (.tmp rfl (.nil)) ?_
       exact ⟨ret_bool (va_no (by unfold vaP; omega)), hM.bel⟩
     ·skip
      refine wp_region_lit ?_
      refine sB 1 [(3, .pointer (some ⟨bb1, 0, none⟩))] hF (by kernel_rfl) fun a hF => ?_
      refine wl (eL 4 1 0 (v := .int .i64 ap) hF hM (by kernel_rfl) rfl rfl (by kernel_rfl) (by kernel_rfl) fun a w hF hM => ?_)
      refine wl (eM 5 (v := .bool true) hF hM (by kernel_rfl) (yld_call (f := 27) (args := #[.int .i64 ap, .int .i64 0, .int .i64 47]) hF (by kernel_rfl) (fun _ => by kernel_rfl) (fun w hM => rin_yes ap 0 47 w hz1 hz2)) fun a w hF hM => ?_)
      refine sB 3 [(6, .bool false), (7, .bool false), (8, .pointer (some ⟨bb1, 1, none⟩))] hF (by kernel_rfl) fun a hF => ?_
      refine wl (eL 9 1 1 (v := .int .i64 ast) hF hM (by kernel_rfl) rfl rfl (by kernel_rfl) (by kernel_rfl) fun a w hF hM => ?_)
      refine wl (eM 10 (v := .bool true) hF hM (by kernel_rfl) (yld_call (f := 27) (args := #[.int .i64 ast, .int .i64 1, .int .i64 4095]) hF (by kernel_rfl) (fun _ => by kernel_rfl) (fun w hM => rin_yes ast 1 4095 w hz3 hz4)) fun a w hF hM => ?_)
      refine sB 4 [(11, .bool false), (12, .bool false), (13, .bool false), (14, .pointer (some ⟨bb1, 3, none⟩))] hF (by kernel_rfl) fun a hF => ?_
      refine wl (eL 15 1 3 (v := .int .i64 asz) hF hM (by kernel_rfl) rfl rfl (by kernel_rfl) (by kernel_rfl) fun a w hF hM => ?_)
      refine wl (eM 16 (v := .bool false) hF hM (by kernel_rfl) (yld_call (f := 27) (args := #[.int .i64 asz, .int .i64 84, .int .i64 1542]) hF (by kernel_rfl) (fun _ => by kernel_rfl) (fun w hM => rin_no asz 84 1542 w (.inl hz5))) fun a w hF hM => ?_)
      refine sB 2 [(17, .bool true), (18, .bool true)] hF (by kernel_rfl) fun a hF => ?_
      refine wpList_nil ?_
      refine hK3 _ _ ?_
      refine cT hF (by kernel_rfl) (by kernel_rfl) ?_
      refine wp_seq_k fun K18 hK18 => ?_
      refine wp_region_lit ?_
      refine sB 1 [(2, .bool false)] hF (by kernel_rfl) fun a hF => ?_
      refine wpList_nil ?_
      refine hK18 _ _ ?_
      refine wp_ret ?_
      refine hR0 _ _ ?_
      refine ret_of hF hM (.tmp rfl (.nil)) ?_
      exact ⟨ret_bool (va_no (by unfold vaP; omega)), hM.bel⟩
    ·skip
     refine wp_region_lit ?_
     refine sB 1 [(3, .pointer (some ⟨bb1, 0, none⟩))] hF (by kernel_rfl) fun a hF => ?_
     refine wl (eL 4 1 0 (v := .int .i64 ap) hF hM (by kernel_rfl) rfl rfl (by kernel_rfl) (by kernel_rfl) fun a w hF hM => ?_)
     refine wl (eM 5 (v := .bool true) hF hM (by kernel_rfl) (yld_call (f := 27) (args := #[.int .i64 ap, .int .i64 0, .int .i64 47]) hF (by kernel_rfl) (fun _ => by kernel_rfl) (fun w hM => rin_yes ap 0 47 w hz1 hz2)) fun a w hF hM => ?_)
     refine sB 3 [(6, .bool false), (7, .bool false), (8, .pointer (some ⟨bb1, 1, none⟩))] hF (by kernel_rfl) fun a hF => ?_
     refine wl (eL 9 1 1 (v := .int .i64 ast) hF hM (by kernel_rfl) rfl rfl (by kernel_rfl) (by kernel_rfl) fun a w hF hM => ?_)
     refine wl (eM 10 (v := .bool false) hF hM (by kernel_rfl) (yld_call (f := 27) (args := #[.int .i64 ast, .int .i64 1, .int .i64 4095]) hF (by kernel_rfl) (fun _ => by kernel_rfl) (fun w hM => rin_no ast 1 4095 w (.inr hz4))) fun a w hF hM => ?_)
     refine sB 8 [(11, .bool true), (12, .bool true), (13, .bool true), (14, undef), (15, undef), (16, undef), (17, undef), (18, .bool true)] hF (by kernel_rfl) fun a hF => ?_
     refine wpList_nil ?_
     refine hK3 _ _ ?_
     refine cT hF (by kernel_rfl) (by kernel_rfl) ?_
     refine wp_seq_k fun K19 hK19 => ?_
     refine wp_region_lit ?_
     refine sB 1 [(2, .bool false)] hF (by kernel_rfl) fun a hF => ?_
     refine wpList_nil ?_
     refine hK19 _ _ ?_
     refine wp_ret ?_
     refine hR0 _ _ ?_
     refine ret_of hF hM (.tmp rfl (.nil)) ?_
     exact ⟨ret_bool (va_no (by unfold vaP; omega)), hM.bel⟩
   ·skip
    refine wp_region_lit ?_
    refine sB 1 [(3, .pointer (some ⟨bb1, 0, none⟩))] hF (by kernel_rfl) fun a hF => ?_
    refine wl (eL 4 1 0 (v := .int .i64 ap) hF hM (by kernel_rfl) rfl rfl (by kernel_rfl) (by kernel_rfl) fun a w hF hM => ?_)
    refine wl (eM 5 (v := .bool true) hF hM (by kernel_rfl) (yld_call (f := 27) (args := #[.int .i64 ap, .int .i64 0, .int .i64 47]) hF (by kernel_rfl) (fun _ => by kernel_rfl) (fun w hM => rin_yes ap 0 47 w hz1 hz2)) fun a w hF hM => ?_)
    refine sB 3 [(6, .bool false), (7, .bool false), (8, .pointer (some ⟨bb1, 1, none⟩))] hF (by kernel_rfl) fun a hF => ?_
    refine wl (eL 9 1 1 (v := .int .i64 ast) hF hM (by kernel_rfl) rfl rfl (by kernel_rfl) (by kernel_rfl) fun a w hF hM => ?_)
    refine wl (eM 10 (v := .bool false) hF hM (by kernel_rfl) (yld_call (f := 27) (args := #[.int .i64 ast, .int .i64 1, .int .i64 4095]) hF (by kernel_rfl) (fun _ => by kernel_rfl) (fun w hM => rin_no ast 1 4095 w (.inl hz3))) fun a w hF hM => ?_)
    refine sB 8 [(11, .bool true), (12, .bool true), (13, .bool true), (14, undef), (15, undef), (16, undef), (17, undef), (18, .bool true)] hF (by kernel_rfl) fun a hF => ?_
    refine wpList_nil ?_
    refine hK3 _ _ ?_
    refine cT hF (by kernel_rfl) (by kernel_rfl) ?_
    refine wp_seq_k fun K20 hK20 => ?_
    refine wp_region_lit ?_
    refine sB 1 [(2, .bool false)] hF (by kernel_rfl) fun a hF => ?_
    refine wpList_nil ?_
    refine hK20 _ _ ?_
    refine wp_ret ?_
    refine hR0 _ _ ?_
    refine ret_of hF hM (.tmp rfl (.nil)) ?_
    exact ⟨ret_bool (va_no (by unfold vaP; omega)), hM.bel⟩
  ·skip
   refine wp_region_lit ?_
   refine sB 1 [(3, .pointer (some ⟨bb1, 0, none⟩))] hF (by kernel_rfl) fun a hF => ?_
   refine wl (eL 4 1 0 (v := .int .i64 ap) hF hM (by kernel_rfl) rfl rfl (by kernel_rfl) (by kernel_rfl) fun a w hF hM => ?_)
   refine wl (eM 5 (v := .bool false) hF hM (by kernel_rfl) (yld_call (f := 27) (args := #[.int .i64 ap, .int .i64 0, .int .i64 47]) hF (by kernel_rfl) (fun _ => by kernel_rfl) (fun w hM => rin_no ap 0 47 w (.inr hz2))) fun a w hF hM => ?_)
   refine sB 13 [(6, .bool true), (7, .bool true), (8, undef), (9, undef), (10, undef), (11, undef), (12, .bool true), (13, .bool true), (14, undef), (15, undef), (16, undef), (17, undef), (18, .bool true)] hF (by kernel_rfl) fun a hF => ?_
   refine wpList_nil ?_
   refine hK3 _ _ ?_
   refine cT hF (by kernel_rfl) (by kernel_rfl) ?_
   refine wp_seq_k fun K21 hK21 => ?_
   refine wp_region_lit ?_
   refine sB 1 [(2, .bool false)] hF (by kernel_rfl) fun a hF => ?_
   refine wpList_nil ?_
   refine hK21 _ _ ?_
   refine wp_ret ?_
   refine hR0 _ _ ?_
   refine ret_of hF hM (.tmp rfl (.nil)) ?_
   exact ⟨ret_bool (va_no (by unfold vaP; omega)), hM.bel⟩
 ·skip
  refine wp_region_lit ?_
  refine sB 1 [(3, .pointer (some ⟨bb1, 0, none⟩))] hF (by kernel_rfl) fun a hF => ?_
  refine wl (eL 4 1 0 (v := .int .i64 ap) hF hM (by kernel_rfl) rfl rfl (by kernel_rfl) (by kernel_rfl) fun a w hF hM => ?_)
  refine wl (eM 5 (v := .bool false) hF hM (by kernel_rfl) (yld_call (f := 27) (args := #[.int .i64 ap, .int .i64 0, .int .i64 47]) hF (by kernel_rfl) (fun _ => by kernel_rfl) (fun w hM => rin_no ap 0 47 w (.inl hz1))) fun a w hF hM => ?_)
  refine sB 13 [(6, .bool true), (7, .bool true), (8, undef), (9, undef), (10, undef), (11, undef), (12, .bool true), (13, .bool true), (14, undef), (15, undef), (16, undef), (17, undef), (18, .bool true)] hF (by kernel_rfl) fun a hF => ?_
  refine wpList_nil ?_
  refine hK3 _ _ ?_
  refine cT hF (by kernel_rfl) (by kernel_rfl) ?_
  refine wp_seq_k fun K22 hK22 => ?_
  refine wp_region_lit ?_
  refine sB 1 [(2, .bool false)] hF (by kernel_rfl) fun a hF => ?_
  refine wpList_nil ?_
  refine hK22 _ _ ?_
  refine wp_ret ?_
  refine hR0 _ _ ?_
  refine ret_of hF hM (.tmp rfl (.nil)) ?_
  exact ⟨ret_bool (va_no (by unfold vaP; omega)), hM.bel⟩

set_option maxRecDepth 100000 in
theorem rRight33_w (A : Option Addr) (la : List (List Int)) (ca : Nat) (A2 : Option Addr) (lq : List (List Int)) (cq_ : Nat) (now : Int) (A3 : Option Addr) (ls : List Int) (cs : Nat) (A4 : Option Addr) (lm : List (List Int)) (cm : Nat) (w0 : World) (hA : Ro w0 A (flatR la)) (hW : WR 7 la) (hA2 : Ro w0 A2 (flatR lq)) (hW2 : WR 5 lq) (hA3 : Ro w0 A3 (ls.map (Value.int .i64))) (hA4 : Ro w0 A4 (flatR lm)) (hW4 : WR 3 lm) :
    Calls Try.prog 11 #[.agg #[.slice A la.length ca, .slice A2 lq.length cq_, .int .i64 now, .slice A3 ls.length cs, .slice A4 lm.length cm]] w0 (Ret w0 (.bool (frB la lq now ls lm))) := by
 refine enterK 159 Try.func11 rfl rfl rfl ?_
 intro a hF Q0 hR0 hN0
 have hM := Mem.start w0
 replace hM := hM.addOld 1 hA (Nat.le_refl _)
 replace hM := hM.addOld 2 hA2 (Nat.le_refl _)
 replace hM := hM.addOld 3 hA3 (Nat.le_refl _)
 replace hM := hM.addOld 4 hA4 (Nat.le_refl _)
 refine wp_seq_k fun K1 hK1 => ?_
 refine wp_region_lit ?_
 refine wl (eN 1 5 (t := 27) (fun b => .pointer (some ⟨b, 0, none⟩)) #[.slice A la.length ca, .slice A2 lq.length cq_, .int .i64 now, .slice A3 ls.length cs, .slice A4 lm.length cm] hF hM (by kernel_rfl) (fun _ => by kernel_rfl) fun bb1 a w hF hM => ?_)
 refine sB 1 [(2, .bool false)] hF (by kernel_rfl) fun a hF => ?_
 refine wpList_nil ?_
 refine hK1 _ _ ?_
 refine wp_seq_k fun K2 hK2 => ?_
 refine wp_seq_k fun K3 hK3 => ?_
 by_cases hz1 : 64 < (la.length : Int)
 ·skip
  refine wp_region_lit ?_
  refine sB 1 [(9, .pointer (some ⟨bb1, 0, none⟩))] hF (by kernel_rfl) fun a hF => ?_
  refine wl (eL 10 5 0 (v := .slice A la.length ca) hF hM (by kernel_rfl) rfl rfl (by kernel_rfl) (by kernel_rfl) fun a w hF hM => ?_)
  refine sB 1 [(11, .int .i64 (la.length : Int))] hF (by kernel_rfl) fun a hF => ?_
  refine wl (eP 12 (v0 := .bool (decide (64 < (la.length : Int)))) (v := .bool true) hF (by kernel_rfl) (fun _ => by kernel_rfl) (bT hz1) fun a hF => ?_)
  refine sB 30 [(13, .bool true), (14, undef), (15, undef), (16, undef), (17, undef), (18, .bool true), (19, .bool true), (20, undef), (21, undef), (22, undef), (23, undef), (24, undef), (25, undef), (26, undef), (27, .bool true), (28, .bool true), (29, undef), (30, undef), (31, undef), (32, undef), (33, undef), (34, undef), (35, undef), (36, .bool true), (37, .bool true), (38, undef), (39, undef), (40, undef), (41, undef), (42, .bool true)] hF (by kernel_rfl) fun a hF => ?_
  refine wpList_nil ?_
  refine hK3 _ _ ?_
  refine cT hF (by kernel_rfl) (by kernel_rfl) ?_
  refine wp_seq_k fun K4 hK4 => ?_
  refine wp_region_lit ?_
  refine sB 1 [(2, .bool false)] hF (by kernel_rfl) fun a hF => ?_
  refine wpList_nil ?_
  refine hK4 _ _ ?_
  refine wp_ret ?_
  refine hR0 _ _ ?_
  refine ret_of hF hM (.tmp rfl (.nil)) ?_
  exact ⟨ret_bool (fr_no (fun z => by have z1 := fl_len z; omega)), hM.bel⟩
 ·skip
  by_cases hz2 : 64 < (lq.length : Int)
  ·skip
   refine wp_region_lit ?_
   refine sB 1 [(9, .pointer (some ⟨bb1, 0, none⟩))] hF (by kernel_rfl) fun a hF => ?_
   refine wl (eL 10 5 0 (v := .slice A la.length ca) hF hM (by kernel_rfl) rfl rfl (by kernel_rfl) (by kernel_rfl) fun a w hF hM => ?_)
   refine sB 1 [(11, .int .i64 (la.length : Int))] hF (by kernel_rfl) fun a hF => ?_
   refine wl (eP 12 (v0 := .bool (decide (64 < (la.length : Int)))) (v := .bool false) hF (by kernel_rfl) (fun _ => by kernel_rfl) (bF hz1) fun a hF => ?_)
   refine sB 2 [(13, .bool false), (14, .pointer (some ⟨bb1, 1, none⟩))] hF (by kernel_rfl) fun a hF => ?_
   refine wl (eL 15 5 1 (v := .slice A2 lq.length cq_) hF hM (by kernel_rfl) rfl rfl (by kernel_rfl) (by kernel_rfl) fun a w hF hM => ?_)
   refine sB 1 [(16, .int .i64 (lq.length : Int))] hF (by kernel_rfl) fun a hF => ?_
   refine wl (eP 17 (v0 := .bool (decide (64 < (lq.length : Int)))) (v := .bool true) hF (by kernel_rfl) (fun _ => by kernel_rfl) (bT hz2) fun a hF => ?_)
   refine sB 25 [(18, .bool true), (19, .bool true), (20, undef), (21, undef), (22, undef), (23, undef), (24, undef), (25, undef), (26, undef), (27, .bool true), (28, .bool true), (29, undef), (30, undef), (31, undef), (32, undef), (33, undef), (34, undef), (35, undef), (36, .bool true), (37, .bool true), (38, undef), (39, undef), (40, undef), (41, undef), (42, .bool true)] hF (by kernel_rfl) fun a hF => ?_
   refine wpList_nil ?_
   refine hK3 _ _ ?_
   refine cT hF (by kernel_rfl) (by kernel_rfl) ?_
   refine wp_seq_k fun K5 hK5 => ?_
   refine wp_region_lit ?_
   refine sB 1 [(2, .bool false)] hF (by kernel_rfl) fun a hF => ?_
   refine wpList_nil ?_
   refine hK5 _ _ ?_
   refine wp_ret ?_
   refine hR0 _ _ ?_
   refine ret_of hF hM (.tmp rfl (.nil)) ?_
   exact ⟨ret_bool (fr_no (fun z => by have z1 := fl_len z; omega)), hM.bel⟩
  ·skip
   by_cases hz3 : (ls.length : Int) = (la.length : Int)
   ·skip
    by_cases hz4 : (lm.length : Int) = (lq.length : Int)
    ·skip
     by_cases hz5 : -1000 ≤ now
     ·skip
      by_cases hz6 : now ≤ 549755813888
      ·skip
       refine wp_region_lit ?_
       refine sB 1 [(9, .pointer (some ⟨bb1, 0, none⟩))] hF (by kernel_rfl) fun a hF => ?_
       refine wl (eL 10 5 0 (v := .slice A la.length ca) hF hM (by kernel_rfl) rfl rfl (by kernel_rfl) (by kernel_rfl) fun a w hF hM => ?_)
       refine sB 1 [(11, .int .i64 (la.length : Int))] hF (by kernel_rfl) fun a hF => ?_
       refine wl (eP 12 (v0 := .bool (decide (64 < (la.length : Int)))) (v := .bool false) hF (by kernel_rfl) (fun _ => by kernel_rfl) (bF hz1) fun a hF => ?_)
       refine sB 2 [(13, .bool false), (14, .pointer (some ⟨bb1, 1, none⟩))] hF (by kernel_rfl) fun a hF => ?_
       refine wl (eL 15 5 1 (v := .slice A2 lq.length cq_) hF hM (by kernel_rfl) rfl rfl (by kernel_rfl) (by kernel_rfl) fun a w hF hM => ?_)
       refine sB 1 [(16, .int .i64 (lq.length : Int))] hF (by kernel_rfl) fun a hF => ?_
       refine wl (eP 17 (v0 := .bool (decide (64 < (lq.length : Int)))) (v := .bool false) hF (by kernel_rfl) (fun _ => by kernel_rfl) (bF hz2) fun a hF => ?_)
       refine sB 3 [(18, .bool false), (19, .bool false), (20, .pointer (some ⟨bb1, 3, none⟩))] hF (by kernel_rfl) fun a hF => ?_
       refine wl (eL 21 5 3 (v := .slice A3 ls.length cs) hF hM (by kernel_rfl) rfl rfl (by kernel_rfl) (by kernel_rfl) fun a w hF hM => ?_)
       refine sB 2 [(22, .int .i64 (ls.length : Int)), (23, .pointer (some ⟨bb1, 0, none⟩))] hF (by kernel_rfl) fun a hF => ?_
       refine wl (eL 24 5 0 (v := .slice A la.length ca) hF hM (by kernel_rfl) rfl rfl (by kernel_rfl) (by kernel_rfl) fun a w hF hM => ?_)
       refine sB 1 [(25, .int .i64 (la.length : Int))] hF (by kernel_rfl) fun a hF => ?_
       refine wl (eP 26 (v0 := .bool (!decide ((ls.length : Int) = (la.length : Int)))) (v := .bool false) hF (by kernel_rfl) (fun _ => by kernel_rfl) (nT hz3) fun a hF => ?_)
       refine sB 3 [(27, .bool false), (28, .bool false), (29, .pointer (some ⟨bb1, 4, none⟩))] hF (by kernel_rfl) fun a hF => ?_
       refine wl (eL 30 5 4 (v := .slice A4 lm.length cm) hF hM (by kernel_rfl) rfl rfl (by kernel_rfl) (by kernel_rfl) fun a w hF hM => ?_)
       refine sB 2 [(31, .int .i64 (lm.length : Int)), (32, .pointer (some ⟨bb1, 1, none⟩))] hF (by kernel_rfl) fun a hF => ?_
       refine wl (eL 33 5 1 (v := .slice A2 lq.length cq_) hF hM (by kernel_rfl) rfl rfl (by kernel_rfl) (by kernel_rfl) fun a w hF hM => ?_)
       refine sB 1 [(34, .int .i64 (lq.length : Int))] hF (by kernel_rfl) fun a hF => ?_
       refine wl (eP 35 (v0 := .bool (!decide ((lm.length : Int) = (lq.length : Int)))) (v := .bool false) hF (by kernel_rfl) (fun _ => by kernel_rfl) (nT hz4) fun a hF => ?_)
       refine sB 3 [(36, .bool false), (37, .bool false), (38, .pointer (some ⟨bb1, 2, none⟩))] hF (by kernel_rfl) fun a hF => ?_
       refine wl (eL 39 5 2 (v := .int .i64 now) hF hM (by kernel_rfl) rfl rfl (by kernel_rfl) (by kernel_rfl) fun a w hF hM => ?_)
       refine wl (eM 40 (v := .bool true) hF hM (by kernel_rfl) (yld_call (f := 27) (args := #[.int .i64 now, .int .i64 (-1000), .int .i64 549755813888]) hF (by kernel_rfl) (fun _ => by kernel_rfl) (fun w hM => rin_yes now (-1000) 549755813888 w hz5 hz6)) fun a w hF hM => ?_)
       refine sB 2 [(41, .bool false), (42, .bool false)] hF (by kernel_rfl) fun a hF => ?_
       refine wpList_nil ?_
       refine hK3 _ _ ?_
       refine cF hF (by kernel_rfl) (by kernel_rfl) ?_
       refine wp_skip ?_
       refine hK2 _ _ ?_
       refine wp_seq_k fun K6 hK6 => ?_
       refine wp_seq_k fun K7 hK7 => ?_
       refine wp_region_lit ?_
       refine sB 1 [(3, .int .i64 0)] hF (by kernel_rfl) fun a hF => ?_
       refine wpList_nil ?_
       refine hK7 _ _ ?_
       refine wp_block ?_
       refine wp_loop_k (G := Nat) (fun gg a w => Fr 159 [(3, some (.int .i64 (gg : Int))), (1, some (.pointer (some ⟨bb1, 0, none⟩)))] a ∧ Mem w0.heap.size w0 [(1, some (.ro A (flatR la))), (2, some (.ro A2 (flatR lq))), (3, some (.ro A3 (ls.map (Value.int .i64)))), (4, some (.ro A4 (flatR lm))), (5, some (.row bb1 27 #[.slice A la.length ca, .slice A2 lq.length cq_, .int .i64 now, .slice A3 ls.length cs, .slice A4 lm.length cm]))] w ∧ ((gg : Int) ≤ (la.length : Int)) ∧ (∀ j, j < gg → okA la j ∧ okL la ls j)) (fun gg => la.length - gg) (0) ?_ ?_
       ·refine ⟨(((Fr.nil hF).c hF (i := 1) rfl rfl).c hF (i := 3) rfl (vi (show (0 : Int) = (0 : Int) from by omega))), (hM.sub (((((Sub.nil.c (k := 5) rfl rfl).c (k := 4) rfl rfl).c (k := 3) rfl rfl).c (k := 2) rfl rfl).c (k := 1) rfl rfl)), (show (0 : Int) ≤ (la.length : Int) from by omega), (show ∀ j, j < 0 → okA la j ∧ okL la ls j from by exact fun j hj => by omega)⟩
       ·intro gg a w hI
        intro K8 hK8
        obtain ⟨k, rfl⟩ : ∃ x, x = gg := ⟨_, rfl⟩
        try dsimp only at hI hK8
        obtain ⟨hF, hM, hz7, hz8⟩ := hI
        refine wp_seq_k fun K9 hK9 => ?_
        refine wp_seq_k fun K10 hK10 => ?_
        refine wp_region_lit ?_
        refine sB 2 [(43, .int .i64 (k : Int)), (44, .pointer (some ⟨bb1, 0, none⟩))] hF (by kernel_rfl) fun a hF => ?_
        refine wl (eL 45 5 0 (v := .slice A la.length ca) hF hM (by kernel_rfl) rfl rfl (by kernel_rfl) (by kernel_rfl) fun a w hF hM => ?_)
        refine sB 2 [(46, .int .i64 (la.length : Int)), (47, .bool (decide ((k : Int) < (la.length : Int))))] hF (by kernel_rfl) fun a hF => ?_
        refine wpList_nil ?_
        refine hK10 _ _ ?_
        by_cases hz9 : (k : Int) < (la.length : Int)
        ·skip
         replace hF := hF.c hF (i := 47) (v := .bool true) rfl (bT hz9)
         refine cT hF (by kernel_rfl) (by kernel_rfl) ?_
         refine wp_skip ?_
         refine hK9 _ _ ?_
         refine wp_seq_k fun K11 hK11 => ?_
         refine wp_block ?_
         refine wp_seq_k fun K12 hK12 => ?_
         refine wp_region_lit ?_
         refine sB 1 [(50, .pointer (some ⟨bb1, 0, none⟩))] hF (by kernel_rfl) fun a hF => ?_
         refine wl (eL 51 5 0 (v := .slice A la.length ca) hF hM (by kernel_rfl) rfl rfl (by kernel_rfl) (by kernel_rfl) fun a w hF hM => ?_)
         refine sB 1 [(52, .int .i64 (k : Int))] hF (by kernel_rfl) fun a hF => ?_
         refine wl (eM 53 (v := .pointer (some (ea A (k * 7)))) hF hM (by kernel_rfl) (yld_ix (kd := .i64) (e := 57) (len := la.length) (cap := ca) (i := (k : Int)) (size := 7) (A := A) hF rfl (by kernel_rfl) (by kernel_rfl) (by kernel_rfl) (by kernel_rfl) (by kernel_rfl) (roK 1 rfl) (by omega) (by omega) (by rw [flatR_length hW]; (try simp only [List.length_map, List.length_append, List.length_replicate, List.length_set, List.length_cons, List.length_nil, flat2_length, List.length_take]); omega)) fun a w hF hM => ?_)
         refine wl (eM 54 (v := .agg #[.int .i64 (rc la k 0), .int .i64 (rc la k 1), .int .i64 (rc la k 2), .int .i64 (rc la k 3), .int .i64 (rc la k 4), .int .i64 (rc la k 5), .int .i64 (rc la k 6)]) hF hM (by kernel_rfl) (yld_roM (A := A) (j := k * 7) (us := [.int .i64 (rc la k 0), .int .i64 (rc la k 1), .int .i64 (rc la k 2), .int .i64 (rc la k 3), .int .i64 (rc la k 4), .int .i64 (rc la k 5), .int .i64 (rc la k 6)]) hF rfl (by kernel_rfl) (by kernel_rfl) (roK 1 rfl) (by kernel_rfl) rfl (rc_sub (k := k) (f := 0) (m := 7) hW (by omega) (by decide) rfl)) fun a w hF hM => ?_)
         refine wl (eN 4 6 (t := 57) (fun b => .pointer (some ⟨b, 0, none⟩)) #[.int .i64 0, .int .i64 0, .int .i64 0, .int .i64 0, .int .i64 0, .int .i64 0, .int .i64 0] hF hM (by kernel_rfl) (fun _ => by kernel_rfl) fun bb2 a w hF hM => ?_)
         refine wl (sStore (i := 6) (off := 0) (cs' := #[.int .i64 (rc la k 0), .int .i64 (rc la k 1), .int .i64 (rc la k 2), .int .i64 (rc la k 3), .int .i64 (rc la k 4), .int .i64 (rc la k 5), .int .i64 (rc la k 6)]) hF hM (by kernel_rfl) rfl rfl (by kernel_rfl) (by kernel_rfl) rfl (by kernel_rfl) fun w hM => ?_)
         refine wpList_nil ?_
         refine hK12 _ _ ?_
         refine wp_seq_k fun K13 hK13 => ?_
         refine wp_seq_k fun K14 hK14 => ?_
         cases hz10 : (vaB (rc la k 0) (rc la k 1) (rc la k 2) (rc la k 3) (rc la k 4) (rc la k 5) (rc la k 6))
         ·skip
          refine wp_region_lit ?_
          refine wl (eL 55 6 0 (v := .agg #[.int .i64 (rc la k 0), .int .i64 (rc la k 1), .int .i64 (rc la k 2), .int .i64 (rc la k 3), .int .i64 (rc la k 4), .int .i64 (rc la k 5), .int .i64 (rc la k 6)]) hF hM (by kernel_rfl) rfl rfl (by kernel_rfl) (by kernel_rfl) fun a w hF hM => ?_)
          refine wl (eM 56 (v := .bool false) hF hM (by kernel_rfl) (Yld.to (yld_call (f := 28) (args := #[.agg #[.int .i64 (rc la k 0), .int .i64 (rc la k 1), .int .i64 (rc la k 2), .int .i64 (rc la k 3), .int .i64 (rc la k 4), .int .i64 (rc la k 5), .int .i64 (rc la k 6)]]) hF (by kernel_rfl) (fun _ => by kernel_rfl) (fun w hM => raccept_w (rc la k 0) (rc la k 1) (rc la k 2) (rc la k 3) (rc la k 4) (rc la k 5) (rc la k 6) w)) (congrArg Value.bool hz10)) fun a w hF hM => ?_)
          refine sB 22 [(57, .bool true), (58, .bool true), (59, undef), (60, undef), (61, undef), (62, undef), (63, undef), (64, undef), (65, .bool true), (66, .bool true), (67, undef), (68, undef), (69, undef), (70, undef), (71, undef), (72, undef), (73, undef), (74, undef), (75, undef), (76, undef), (77, undef), (78, .bool true)] hF (by kernel_rfl) fun a hF => ?_
          refine wpList_nil ?_
          refine hK14 _ _ ?_
          refine cT hF (by kernel_rfl) (by kernel_rfl) ?_
          refine wp_seq_k fun K15 hK15 => ?_
          refine wp_region_lit ?_
          refine sB 1 [(2, .bool false)] hF (by kernel_rfl) fun a hF => ?_
          refine wpList_nil ?_
          refine hK15 _ _ ?_
          refine wp_ret ?_
          refine hR0 _ _ ?_
          refine ret_of hF hM (.tmp rfl (.nil)) ?_
          exact ⟨ret_bool (fr_no (fun z => by have z1 := (fl_A z (k := k) (by omega)).1.1; unfold va7 at z1; rw [hz10] at z1; cases z1)), hM.bel⟩
         ·skip
          by_cases hz11 : nt ls k < -1
          ·skip
           refine wp_region_lit ?_
           refine wl (eL 55 6 0 (v := .agg #[.int .i64 (rc la k 0), .int .i64 (rc la k 1), .int .i64 (rc la k 2), .int .i64 (rc la k 3), .int .i64 (rc la k 4), .int .i64 (rc la k 5), .int .i64 (rc la k 6)]) hF hM (by kernel_rfl) rfl rfl (by kernel_rfl) (by kernel_rfl) fun a w hF hM => ?_)
           refine wl (eM 56 (v := .bool true) hF hM (by kernel_rfl) (Yld.to (yld_call (f := 28) (args := #[.agg #[.int .i64 (rc la k 0), .int .i64 (rc la k 1), .int .i64 (rc la k 2), .int .i64 (rc la k 3), .int .i64 (rc la k 4), .int .i64 (rc la k 5), .int .i64 (rc la k 6)]]) hF (by kernel_rfl) (fun _ => by kernel_rfl) (fun w hM => raccept_w (rc la k 0) (rc la k 1) (rc la k 2) (rc la k 3) (rc la k 4) (rc la k 5) (rc la k 6) w)) (congrArg Value.bool hz10)) fun a w hF hM => ?_)
           refine sB 3 [(57, .bool false), (58, .bool false), (59, .pointer (some ⟨bb1, 3, none⟩))] hF (by kernel_rfl) fun a hF => ?_
           refine wl (eL 60 5 3 (v := .slice A3 ls.length cs) hF hM (by kernel_rfl) rfl rfl (by kernel_rfl) (by kernel_rfl) fun a w hF hM => ?_)
           refine sB 1 [(61, .int .i64 (k : Int))] hF (by kernel_rfl) fun a hF => ?_
           refine wl (eM 62 (v := .pointer (some (ea A3 (k)))) hF hM (by kernel_rfl) (yld_ix (kd := .i64) (e := 3) (len := ls.length) (cap := cs) (i := (k : Int)) (size := 1) (A := A3) hF rfl (by kernel_rfl) (by kernel_rfl) (by kernel_rfl) (by kernel_rfl) (by kernel_rfl) (roK 3 rfl) (by omega) (by omega) (by rw [List.length_map]; omega)) fun a w hF hM => ?_)
           refine wl (eM 63 (v := .int .i64 (nt ls k)) hF hM (by kernel_rfl) (yld_ro1 (A := A3) (j := k) hF rfl (by kernel_rfl) (by kernel_rfl) (roK 3 rfl) (by kernel_rfl) (nt_at (by omega))) fun a w hF hM => ?_)
           refine wl (eP 64 (v0 := .bool (decide (nt ls k < -1))) (v := .bool true) hF (by kernel_rfl) (fun _ => by kernel_rfl) (bT hz11) fun a hF => ?_)
           refine sB 14 [(65, .bool true), (66, .bool true), (67, undef), (68, undef), (69, undef), (70, undef), (71, undef), (72, undef), (73, undef), (74, undef), (75, undef), (76, undef), (77, undef), (78, .bool true)] hF (by kernel_rfl) fun a hF => ?_
           refine wpList_nil ?_
           refine hK14 _ _ ?_
           refine cT hF (by kernel_rfl) (by kernel_rfl) ?_
           refine wp_seq_k fun K16 hK16 => ?_
           refine wp_region_lit ?_
           refine sB 1 [(2, .bool false)] hF (by kernel_rfl) fun a hF => ?_
           refine wpList_nil ?_
           refine hK16 _ _ ?_
           refine wp_ret ?_
           refine hR0 _ _ ?_
           refine ret_of hF hM (.tmp rfl (.nil)) ?_
           exact ⟨ret_bool (fr_no (fun z => by have z1 := fl_A z (k := k) (by omega); have z2 := z1.2; unfold okL at z2; first | omega | exact z1.1.2 m (by omega) (by omega))), hM.bel⟩
          ·skip
           by_cases hz12 : rc la k 2 = 6
           ·skip
            refine wp_region_lit ?_
            refine wl (eL 55 6 0 (v := .agg #[.int .i64 (rc la k 0), .int .i64 (rc la k 1), .int .i64 (rc la k 2), .int .i64 (rc la k 3), .int .i64 (rc la k 4), .int .i64 (rc la k 5), .int .i64 (rc la k 6)]) hF hM (by kernel_rfl) rfl rfl (by kernel_rfl) (by kernel_rfl) fun a w hF hM => ?_)
            refine wl (eM 56 (v := .bool true) hF hM (by kernel_rfl) (Yld.to (yld_call (f := 28) (args := #[.agg #[.int .i64 (rc la k 0), .int .i64 (rc la k 1), .int .i64 (rc la k 2), .int .i64 (rc la k 3), .int .i64 (rc la k 4), .int .i64 (rc la k 5), .int .i64 (rc la k 6)]]) hF (by kernel_rfl) (fun _ => by kernel_rfl) (fun w hM => raccept_w (rc la k 0) (rc la k 1) (rc la k 2) (rc la k 3) (rc la k 4) (rc la k 5) (rc la k 6) w)) (congrArg Value.bool hz10)) fun a w hF hM => ?_)
            refine sB 3 [(57, .bool false), (58, .bool false), (59, .pointer (some ⟨bb1, 3, none⟩))] hF (by kernel_rfl) fun a hF => ?_
            refine wl (eL 60 5 3 (v := .slice A3 ls.length cs) hF hM (by kernel_rfl) rfl rfl (by kernel_rfl) (by kernel_rfl) fun a w hF hM => ?_)
            refine sB 1 [(61, .int .i64 (k : Int))] hF (by kernel_rfl) fun a hF => ?_
            refine wl (eM 62 (v := .pointer (some (ea A3 (k)))) hF hM (by kernel_rfl) (yld_ix (kd := .i64) (e := 3) (len := ls.length) (cap := cs) (i := (k : Int)) (size := 1) (A := A3) hF rfl (by kernel_rfl) (by kernel_rfl) (by kernel_rfl) (by kernel_rfl) (by kernel_rfl) (roK 3 rfl) (by omega) (by omega) (by rw [List.length_map]; omega)) fun a w hF hM => ?_)
            refine wl (eM 63 (v := .int .i64 (nt ls k)) hF hM (by kernel_rfl) (yld_ro1 (A := A3) (j := k) hF rfl (by kernel_rfl) (by kernel_rfl) (roK 3 rfl) (by kernel_rfl) (nt_at (by omega))) fun a w hF hM => ?_)
            refine wl (eP 64 (v0 := .bool (decide (nt ls k < -1))) (v := .bool false) hF (by kernel_rfl) (fun _ => by kernel_rfl) (bF hz11) fun a hF => ?_)
            refine sB 3 [(65, .bool false), (66, .bool false), (67, .pointer (some ⟨bb2, 2, none⟩))] hF (by kernel_rfl) fun a hF => ?_
            refine wl (eL 68 6 2 (v := .int .i64 (rc la k 2)) hF hM (by kernel_rfl) rfl rfl (by kernel_rfl) (by kernel_rfl) fun a w hF hM => ?_)
            refine wl (eP 69 (v0 := .bool (decide (rc la k 2 = 6))) (v := .bool true) hF (by kernel_rfl) (fun _ => by kernel_rfl) (bT hz12) fun a hF => ?_)
            refine sB 2 [(70, .bool true), (71, .pointer (some ⟨bb1, 3, none⟩))] hF (by kernel_rfl) fun a hF => ?_
            refine wl (eL 72 5 3 (v := .slice A3 ls.length cs) hF hM (by kernel_rfl) rfl rfl (by kernel_rfl) (by kernel_rfl) fun a w hF hM => ?_)
            refine sB 1 [(73, .int .i64 (k : Int))] hF (by kernel_rfl) fun a hF => ?_
            refine wl (eM 74 (v := .pointer (some (ea A3 (k)))) hF hM (by kernel_rfl) (yld_ix (kd := .i64) (e := 3) (len := ls.length) (cap := cs) (i := (k : Int)) (size := 1) (A := A3) hF rfl (by kernel_rfl) (by kernel_rfl) (by kernel_rfl) (by kernel_rfl) (by kernel_rfl) (roK 3 rfl) (by omega) (by omega) (by rw [List.length_map]; omega)) fun a w hF hM => ?_)
            refine wl (eM 75 (v := .int .i64 (nt ls k)) hF hM (by kernel_rfl) (yld_ro1 (A := A3) (j := k) hF rfl (by kernel_rfl) (by kernel_rfl) (roK 3 rfl) (by kernel_rfl) (nt_at (by omega))) fun a w hF hM => ?_)
            refine sB 3 [(76, .bool (!decide (nt ls k = -1))), (77, .bool (!decide (nt ls k = -1))), (78, .bool (!decide (nt ls k = -1)))] hF (by kernel_rfl) fun a hF => ?_
            refine wpList_nil ?_
            refine hK14 _ _ ?_
            by_cases hz13 : nt ls k = -1
            ·skip
             replace hF := hF.c hF (i := 76) (v := .bool false) rfl (nT hz13)
             replace hF := hF.c hF (i := 77) (v := .bool false) rfl (nT hz13)
             replace hF := hF.c hF (i := 78) (v := .bool false) rfl (nT hz13)
             refine cF hF (by kernel_rfl) (by kernel_rfl) ?_
             refine wp_skip ?_
             refine hK13 _ _ ?_
             refine wp_seq_k fun K17 hK17 => ?_
             refine wp_region_lit ?_
             refine sB 1 [(5, .int .i64 0)] hF (by kernel_rfl) fun a hF => ?_
             refine wpList_nil ?_
             refine hK17 _ _ ?_
             refine wp_block ?_
             refine wp_loop_k (G := Nat) (fun gg a w => Fr 159 [(5, some (.int .i64 (gg : Int))), (1, some (.pointer (some ⟨bb1, 0, none⟩))), (3, some (.int .i64 (k : Int))), (4, some (.pointer (some ⟨bb2, 0, none⟩)))] a ∧ Mem w0.heap.size w0 [(1, some (.ro A (flatR la))), (2, some (.ro A2 (flatR lq))), (3, some (.ro A3 (ls.map (Value.int .i64)))), (4, some (.ro A4 (flatR lm))), (5, some (.row bb1 27 #[.slice A la.length ca, .slice A2 lq.length cq_, .int .i64 now, .slice A3 ls.length cs, .slice A4 lm.length cm])), (6, some (.row bb2 57 #[.int .i64 (rc la k 0), .int .i64 (rc la k 1), .int .i64 (rc la k 2), .int .i64 (rc la k 3), .int .i64 (rc la k 4), .int .i64 (rc la k 5), .int .i64 (rc la k 6)]))] w ∧ ((gg : Int) ≤ (k : Int)) ∧ (∀ j, j < gg → ¬ (rc la j 0 = rc la k 0 ∧ rc la j 1 = rc la k 1))) (fun gg => k - gg) (0) ?_ ?_
             ·refine ⟨(((((Fr.nil hF).c hF (i := 4) rfl rfl).c hF (i := 3) rfl rfl).c hF (i := 1) rfl rfl).c hF (i := 5) rfl (vi (show (0 : Int) = (0 : Int) from by omega))), (hM.sub ((((((Sub.nil.c (k := 6) rfl rfl).c (k := 5) rfl rfl).c (k := 4) rfl rfl).c (k := 3) rfl rfl).c (k := 2) rfl rfl).c (k := 1) rfl rfl)), (show (0 : Int) ≤ (k : Int) from by omega), (show ∀ j, j < 0 → ¬ (rc la j 0 = rc la k 0 ∧ rc la j 1 = rc la k 1) from by exact fun j hj => by omega)⟩
             ·intro gg a w hI
              intro K18 hK18
              obtain ⟨m, rfl⟩ : ∃ x, x = gg := ⟨_, rfl⟩
              try dsimp only at hI hK18
              obtain ⟨hF, hM, hz14, hz15⟩ := hI
              refine wp_seq_k fun K19 hK19 => ?_
              refine wp_seq_k fun K20 hK20 => ?_
              refine wp_region_lit ?_
              refine sB 3 [(79, .int .i64 (m : Int)), (80, .int .i64 (k : Int)), (81, .bool (decide ((m : Int) < (k : Int))))] hF (by kernel_rfl) fun a hF => ?_
              refine wpList_nil ?_
              refine hK20 _ _ ?_
              by_cases hz16 : (m : Int) < (k : Int)
              ·skip
               replace hF := hF.c hF (i := 81) (v := .bool true) rfl (bT hz16)
               refine cT hF (by kernel_rfl) (by kernel_rfl) ?_
               refine wp_skip ?_
               refine hK19 _ _ ?_
               refine wp_seq_k fun K21 hK21 => ?_
               refine wp_block ?_
               refine wp_seq_k fun K22 hK22 => ?_
               by_cases hz17 : rc la m 0 = rc la k 0
               ·skip
                refine rQ hM (by kernel_rfl) (by kernel_rfl) ?_
                refine eQ 84 (v0 := .pointer (some ⟨bb1, 0, none⟩)) (v := .pointer (some ⟨bb1, 0, none⟩)) hF (by kernel_rfl) (fun _ => by kernel_rfl) rfl fun a hF => ?_
                refine eQL 85 5 0 (v := .slice A la.length ca) hF (by kernel_rfl) rfl rfl (by kernel_rfl) (by kernel_rfl) fun a hF => ?_
                refine eQ 86 (v0 := .int .i64 (m : Int)) (v := .int .i64 (m : Int)) hF (by kernel_rfl) (fun _ => by kernel_rfl) rfl fun a hF => ?_
                refine eQ2 87 (v := .pointer (some (ea A (m * 7)))) hF (by kernel_rfl) (yld_ix (kd := .i64) (e := 57) (len := la.length) (cap := ca) (i := (m : Int)) (size := 7) (A := A) hF rfl (by kernel_rfl) (by kernel_rfl) (by kernel_rfl) (by kernel_rfl) (by kernel_rfl) (roK 1 rfl) (by omega) (by omega) (by rw [flatR_length hW]; (try simp only [List.length_map, List.length_append, List.length_replicate, List.length_set, List.length_cons, List.length_nil, flat2_length, List.length_take]); omega)) fun a hF => ?_
                refine eQ 88 (v0 := .pointer (some (ea A (m * 7)))) (v := .pointer (some (ea A (m * 7)))) hF (by kernel_rfl) (fun _ => by kernel_rfl) rfl fun a hF => ?_
                refine eQ2 89 (v := .int .i64 (rc la m 0)) hF (by kernel_rfl) (yld_ro1 (A := A) (j := m * 7) hF rfl (by kernel_rfl) (by kernel_rfl) (roK 1 rfl) (by kernel_rfl) (rc_at (k := m) (i := 0) hW (by omega) (by decide))) fun a hF => ?_
                refine eQ 90 (v0 := .pointer (some ⟨bb2, 0, none⟩)) (v := .pointer (some ⟨bb2, 0, none⟩)) hF (by kernel_rfl) (fun _ => by kernel_rfl) rfl fun a hF => ?_
                refine eQL 91 6 0 (v := .int .i64 (rc la k 0)) hF (by kernel_rfl) rfl rfl (by kernel_rfl) (by kernel_rfl) fun a hF => ?_
                refine eQ 92 (v0 := .bool (decide (rc la m 0 = rc la k 0))) (v := .bool true) hF (by kernel_rfl) (fun _ => by kernel_rfl) (bT hz17) fun a hF => ?_
                refine eQ 93 (v0 := .bool true) (v := .bool true) hF (by kernel_rfl) (fun _ => by kernel_rfl) rfl fun a hF => ?_
                refine eQ 94 (v0 := .pointer (some ⟨bb1, 0, none⟩)) (v := .pointer (some ⟨bb1, 0, none⟩)) hF (by kernel_rfl) (fun _ => by kernel_rfl) rfl fun a hF => ?_
                refine eQL 95 5 0 (v := .slice A la.length ca) hF (by kernel_rfl) rfl rfl (by kernel_rfl) (by kernel_rfl) fun a hF => ?_
                refine eQ 96 (v0 := .int .i64 (m : Int)) (v := .int .i64 (m : Int)) hF (by kernel_rfl) (fun _ => by kernel_rfl) rfl fun a hF => ?_
                refine eQ2 97 (v := .pointer (some (ea A (m * 7)))) hF (by kernel_rfl) (yld_ix (kd := .i64) (e := 57) (len := la.length) (cap := ca) (i := (m : Int)) (size := 7) (A := A) hF rfl (by kernel_rfl) (by kernel_rfl) (by kernel_rfl) (by kernel_rfl) (by kernel_rfl) (roK 1 rfl) (by omega) (by omega) (by rw [flatR_length hW]; (try simp only [List.length_map, List.length_append, List.length_replicate, List.length_set, List.length_cons, List.length_nil, flat2_length, List.length_take]); omega)) fun a hF => ?_
                refine eQ 98 (v0 := .pointer (some (ea A (m * 7 + 1)))) (v := .pointer (some (ea A (m * 7 + 1)))) hF (by kernel_rfl) (fun _ => by kernel_rfl) rfl fun a hF => ?_
                refine eQ2 99 (v := .int .i64 (rc la m 1)) hF (by kernel_rfl) (yld_ro1 (A := A) (j := m * 7 + 1) hF rfl (by kernel_rfl) (by kernel_rfl) (roK 1 rfl) (by kernel_rfl) (rc_at (k := m) (i := 1) hW (by omega) (by decide))) fun a hF => ?_
                refine eQ 100 (v0 := .pointer (some ⟨bb2, 1, none⟩)) (v := .pointer (some ⟨bb2, 1, none⟩)) hF (by kernel_rfl) (fun _ => by kernel_rfl) rfl fun a hF => ?_
                refine eQL 101 6 1 (v := .int .i64 (rc la k 1)) hF (by kernel_rfl) rfl rfl (by kernel_rfl) (by kernel_rfl) fun a hF => ?_
                refine eQ 102 (v0 := .bool (decide (rc la m 1 = rc la k 1))) (v := .bool (decide (rc la m 1 = rc la k 1))) hF (by kernel_rfl) (fun _ => by kernel_rfl) rfl fun a hF => ?_
                refine eQ 103 (v0 := .bool (decide (rc la m 1 = rc la k 1))) (v := .bool (decide (rc la m 1 = rc la k 1))) hF (by kernel_rfl) (fun _ => by kernel_rfl) rfl fun a hF => ?_
                refine wpQuiet_nil ?_
                intro w hM
                refine hK22 _ _ ?_
                by_cases hz18 : rc la m 1 = rc la k 1
                ·skip
                 replace hF := hF.c hF (i := 102) (v := .bool true) rfl (bT hz18)
                 replace hF := hF.c hF (i := 103) (v := .bool true) rfl (bT hz18)
                 refine cT hF (by kernel_rfl) (by kernel_rfl) ?_
                 refine wp_seq_k fun K23 hK23 => ?_
                 refine wp_region_lit ?_
                 refine sB 1 [(2, .bool false)] hF (by kernel_rfl) fun a hF => ?_
                 refine wpList_nil ?_
                 refine hK23 _ _ ?_
                 refine wp_ret ?_
                 refine hR0 _ _ ?_
                 refine ret_of hF hM (.tmp rfl (.nil)) ?_
                 exact ⟨ret_bool (fr_no (fun z => by have z1 := fl_A z (k := k) (by omega); have z2 := z1.2; unfold okL at z2; first | omega | exact z1.1.2 m (by omega) (by omega))), hM.bel⟩
                ·skip
                 replace hF := hF.c hF (i := 102) (v := .bool false) rfl (bF hz18)
                 replace hF := hF.c hF (i := 103) (v := .bool false) rfl (bF hz18)
                 refine cF hF (by kernel_rfl) (by kernel_rfl) ?_
                 refine wp_skip ?_
                 refine hK21 _ _ ?_
                 refine wp_region_lit ?_
                 refine sB 1 [(82, .int .i64 (m : Int))] hF (by kernel_rfl) fun a hF => ?_
                 refine wl (eP 83 (v0 := .int .i64 (IntKind.i64.wrap ((m : Int) + 1))) (v := .int .i64 ((m : Int) + 1)) hF (by kernel_rfl) (fun _ => by kernel_rfl) (wi (by omega)) fun a hF => ?_)
                 refine sB 1 [(5, .int .i64 ((m : Int) + 1))] hF (by kernel_rfl) fun a hF => ?_
                 refine wpList_nil ?_
                 refine hK18 _ _ ⟨(m + 1), ⟨(((((Fr.nil hF).c hF (i := 4) rfl rfl).c hF (i := 3) rfl rfl).c hF (i := 1) rfl rfl).c hF (i := 5) rfl (vi (show ((m : Int) + 1 : Int) = ((m + 1) : Int) from by omega))), (hM.sub ((((((Sub.nil.c (k := 6) rfl rfl).c (k := 5) rfl rfl).c (k := 4) rfl rfl).c (k := 3) rfl rfl).c (k := 2) rfl rfl).c (k := 1) rfl rfl)), (show ((m + 1) : Int) ≤ (k : Int) from by omega), (show ∀ j, j < (m + 1) → ¬ (rc la j 0 = rc la k 0 ∧ rc la j 1 = rc la k 1) from by exact all_next (by assumption) (by omega))⟩, (show k - (m + 1) < k - m from by omega)⟩
               ·skip
                refine rQ hM (by kernel_rfl) (by kernel_rfl) ?_
                refine eQ 84 (v0 := .pointer (some ⟨bb1, 0, none⟩)) (v := .pointer (some ⟨bb1, 0, none⟩)) hF (by kernel_rfl) (fun _ => by kernel_rfl) rfl fun a hF => ?_
                refine eQL 85 5 0 (v := .slice A la.length ca) hF (by kernel_rfl) rfl rfl (by kernel_rfl) (by kernel_rfl) fun a hF => ?_
                refine eQ 86 (v0 := .int .i64 (m : Int)) (v := .int .i64 (m : Int)) hF (by kernel_rfl) (fun _ => by kernel_rfl) rfl fun a hF => ?_
                refine eQ2 87 (v := .pointer (some (ea A (m * 7)))) hF (by kernel_rfl) (yld_ix (kd := .i64) (e := 57) (len := la.length) (cap := ca) (i := (m : Int)) (size := 7) (A := A) hF rfl (by kernel_rfl) (by kernel_rfl) (by kernel_rfl) (by kernel_rfl) (by kernel_rfl) (roK 1 rfl) (by omega) (by omega) (by rw [flatR_length hW]; (try simp only [List.length_map, List.length_append, List.length_replicate, List.length_set, List.length_cons, List.length_nil, flat2_length, List.length_take]); omega)) fun a hF => ?_
                refine eQ 88 (v0 := .pointer (some (ea A (m * 7)))) (v := .pointer (some (ea A (m * 7)))) hF (by kernel_rfl) (fun _ => by kernel_rfl) rfl fun a hF => ?_
                refine eQ2 89 (v := .int .i64 (rc la m 0)) hF (by kernel_rfl) (yld_ro1 (A := A) (j := m * 7) hF rfl (by kernel_rfl) (by kernel_rfl) (roK 1 rfl) (by kernel_rfl) (rc_at (k := m) (i := 0) hW (by omega) (by decide))) fun a hF => ?_
                refine eQ 90 (v0 := .pointer (some ⟨bb2, 0, none⟩)) (v := .pointer (some ⟨bb2, 0, none⟩)) hF (by kernel_rfl) (fun _ => by kernel_rfl) rfl fun a hF => ?_
                refine eQL 91 6 0 (v := .int .i64 (rc la k 0)) hF (by kernel_rfl) rfl rfl (by kernel_rfl) (by kernel_rfl) fun a hF => ?_
                refine eQ 92 (v0 := .bool (decide (rc la m 0 = rc la k 0))) (v := .bool false) hF (by kernel_rfl) (fun _ => by kernel_rfl) (bF hz17) fun a hF => ?_
                refine eQ 93 (v0 := .bool false) (v := .bool false) hF (by kernel_rfl) (fun _ => by kernel_rfl) rfl fun a hF => ?_
                refine qSkip hF (by kernel_rfl) rfl (by decide) fun a hF => ?_
                refine qSkip hF (by kernel_rfl) rfl (by decide) fun a hF => ?_
                refine qSkip hF (by kernel_rfl) rfl (by decide) fun a hF => ?_
                refine qSkip hF (by kernel_rfl) rfl (by decide) fun a hF => ?_
                refine qSkip hF (by kernel_rfl) rfl (by decide) fun a hF => ?_
                refine qSkip hF (by kernel_rfl) rfl (by decide) fun a hF => ?_
                refine qSkip hF (by kernel_rfl) rfl (by decide) fun a hF => ?_
                refine qSkip hF (by kernel_rfl) rfl (by decide) fun a hF => ?_
                refine qSkip hF (by kernel_rfl) rfl (by decide) fun a hF => ?_
                refine eQ 103 (v0 := .bool false) (v := .bool false) hF (by kernel_rfl) (fun _ => by kernel_rfl) rfl fun a hF => ?_
                refine wpQuiet_nil ?_
                intro w hM
                refine hK22 _ _ ?_
                refine cF hF (by kernel_rfl) (by kernel_rfl) ?_
                refine wp_skip ?_
                refine hK21 _ _ ?_
                refine wp_region_lit ?_
                refine sB 1 [(82, .int .i64 (m : Int))] hF (by kernel_rfl) fun a hF => ?_
                refine wl (eP 83 (v0 := .int .i64 (IntKind.i64.wrap ((m : Int) + 1))) (v := .int .i64 ((m : Int) + 1)) hF (by kernel_rfl) (fun _ => by kernel_rfl) (wi (by omega)) fun a hF => ?_)
                refine sB 1 [(5, .int .i64 ((m : Int) + 1))] hF (by kernel_rfl) fun a hF => ?_
                refine wpList_nil ?_
                refine hK18 _ _ ⟨(m + 1), ⟨(((((Fr.nil hF).c hF (i := 4) rfl rfl).c hF (i := 3) rfl rfl).c hF (i := 1) rfl rfl).c hF (i := 5) rfl (vi (show ((m : Int) + 1 : Int) = ((m + 1) : Int) from by omega))), (hM.sub ((((((Sub.nil.c (k := 6) rfl rfl).c (k := 5) rfl rfl).c (k := 4) rfl rfl).c (k := 3) rfl rfl).c (k := 2) rfl rfl).c (k := 1) rfl rfl)), (show ((m + 1) : Int) ≤ (k : Int) from by omega), (show ∀ j, j < (m + 1) → ¬ (rc la j 0 = rc la k 0 ∧ rc la j 1 = rc la k 1) from by exact all_next (by assumption) (by omega))⟩, (show k - (m + 1) < k - m from by omega)⟩
              ·skip
               replace hF := hF.c hF (i := 81) (v := .bool false) rfl (bF hz16)
               refine cF hF (by kernel_rfl) (by kernel_rfl) ?_
               refine wp_exit ?_
               refine hK11 _ _ ?_
               refine wp_region_lit ?_
               refine sB 1 [(48, .int .i64 (k : Int))] hF (by kernel_rfl) fun a hF => ?_
               refine wl (eP 49 (v0 := .int .i64 (IntKind.i64.wrap ((k : Int) + 1))) (v := .int .i64 ((k : Int) + 1)) hF (by kernel_rfl) (fun _ => by kernel_rfl) (wi (by omega)) fun a hF => ?_)
               refine sB 1 [(3, .int .i64 ((k : Int) + 1))] hF (by kernel_rfl) fun a hF => ?_
               refine wpList_nil ?_
               refine hK8 _ _ ⟨(k + 1), ⟨(((Fr.nil hF).c hF (i := 1) rfl rfl).c hF (i := 3) rfl (vi (show ((k : Int) + 1 : Int) = ((k + 1) : Int) from by omega))), (hM.sub (((((Sub.nil.c (k := 5) rfl rfl).c (k := 4) rfl rfl).c (k := 3) rfl rfl).c (k := 2) rfl rfl).c (k := 1) rfl rfl)), (show ((k + 1) : Int) ≤ (la.length : Int) from by omega), (show ∀ j, j < (k + 1) → okA la j ∧ okL la ls j from by exact all_next (by assumption) ⟨(okA_iff (by omega)).2 ⟨hz10, fun j hj => ‹∀ j, j < m → ¬ (rc la j 0 = rc la k 0 ∧ rc la j 1 = rc la k 1)› j (by omega)⟩, by unfold okL; omega⟩)⟩, (show la.length - (k + 1) < la.length - k from by omega)⟩
            ·skip
             replace hF := hF.c hF (i := 76) (v := .bool true) rfl (nF hz13)
             replace hF := hF.c hF (i := 77) (v := .bool true) rfl (nF hz13)
             replace hF := hF.c hF (i := 78) (v := .bool true) rfl (nF hz13)
             refine cT hF (by kernel_rfl) (by kernel_rfl) ?_
             refine wp_seq_k fun K24 hK24 => ?_
             refine wp_region_lit ?_
             refine sB 1 [(2, .bool false)] hF (by kernel_rfl) fun a hF => ?_
             refine wpList_nil ?_
             refine hK24 _ _ ?_
             refine wp_ret ?_
             refine hR0 _ _ ?_
             refine ret_of hF hM (.tmp rfl (.nil)) ?_
             exact ⟨ret_bool (fr_no (fun z => by have z1 := fl_A z (k := k) (by omega); have z2 := z1.2; unfold okL at z2; first | omega | exact z1.1.2 m (by omega) (by omega))), hM.bel⟩
           ·skip
            refine wp_region_lit ?_
            refine wl (eL 55 6 0 (v := .agg #[.int .i64 (rc la k 0), .int .i64 (rc la k 1), .int .i64 (rc la k 2), .int .i64 (rc la k 3), .int .i64 (rc la k 4), .int .i64 (rc la k 5), .int .i64 (rc la k 6)]) hF hM (by kernel_rfl) rfl rfl (by kernel_rfl) (by kernel_rfl) fun a w hF hM => ?_)
            refine wl (eM 56 (v := .bool true) hF hM (by kernel_rfl) (Yld.to (yld_call (f := 28) (args := #[.agg #[.int .i64 (rc la k 0), .int .i64 (rc la k 1), .int .i64 (rc la k 2), .int .i64 (rc la k 3), .int .i64 (rc la k 4), .int .i64 (rc la k 5), .int .i64 (rc la k 6)]]) hF (by kernel_rfl) (fun _ => by kernel_rfl) (fun w hM => raccept_w (rc la k 0) (rc la k 1) (rc la k 2) (rc la k 3) (rc la k 4) (rc la k 5) (rc la k 6) w)) (congrArg Value.bool hz10)) fun a w hF hM => ?_)
            refine sB 3 [(57, .bool false), (58, .bool false), (59, .pointer (some ⟨bb1, 3, none⟩))] hF (by kernel_rfl) fun a hF => ?_
            refine wl (eL 60 5 3 (v := .slice A3 ls.length cs) hF hM (by kernel_rfl) rfl rfl (by kernel_rfl) (by kernel_rfl) fun a w hF hM => ?_)
            refine sB 1 [(61, .int .i64 (k : Int))] hF (by kernel_rfl) fun a hF => ?_
            refine wl (eM 62 (v := .pointer (some (ea A3 (k)))) hF hM (by kernel_rfl) (yld_ix (kd := .i64) (e := 3) (len := ls.length) (cap := cs) (i := (k : Int)) (size := 1) (A := A3) hF rfl (by kernel_rfl) (by kernel_rfl) (by kernel_rfl) (by kernel_rfl) (by kernel_rfl) (roK 3 rfl) (by omega) (by omega) (by rw [List.length_map]; omega)) fun a w hF hM => ?_)
            refine wl (eM 63 (v := .int .i64 (nt ls k)) hF hM (by kernel_rfl) (yld_ro1 (A := A3) (j := k) hF rfl (by kernel_rfl) (by kernel_rfl) (roK 3 rfl) (by kernel_rfl) (nt_at (by omega))) fun a w hF hM => ?_)
            refine wl (eP 64 (v0 := .bool (decide (nt ls k < -1))) (v := .bool false) hF (by kernel_rfl) (fun _ => by kernel_rfl) (bF hz11) fun a hF => ?_)
            refine sB 3 [(65, .bool false), (66, .bool false), (67, .pointer (some ⟨bb2, 2, none⟩))] hF (by kernel_rfl) fun a hF => ?_
            refine wl (eL 68 6 2 (v := .int .i64 (rc la k 2)) hF hM (by kernel_rfl) rfl rfl (by kernel_rfl) (by kernel_rfl) fun a w hF hM => ?_)
            refine wl (eP 69 (v0 := .bool (decide (rc la k 2 = 6))) (v := .bool false) hF (by kernel_rfl) (fun _ => by kernel_rfl) (bF hz12) fun a hF => ?_)
            refine sB 9 [(70, .bool false), (71, undef), (72, undef), (73, undef), (74, undef), (75, undef), (76, undef), (77, .bool false), (78, .bool false)] hF (by kernel_rfl) fun a hF => ?_
            refine wpList_nil ?_
            refine hK14 _ _ ?_
            refine cF hF (by kernel_rfl) (by kernel_rfl) ?_
            refine wp_skip ?_
            refine hK13 _ _ ?_
            refine wp_seq_k fun K25 hK25 => ?_
            refine wp_region_lit ?_
            refine sB 1 [(5, .int .i64 0)] hF (by kernel_rfl) fun a hF => ?_
            refine wpList_nil ?_
            refine hK25 _ _ ?_
            refine wp_block ?_
            refine wp_loop_k (G := Nat) (fun gg a w => Fr 159 [(5, some (.int .i64 (gg : Int))), (1, some (.pointer (some ⟨bb1, 0, none⟩))), (3, some (.int .i64 (k : Int))), (4, some (.pointer (some ⟨bb2, 0, none⟩)))] a ∧ Mem w0.heap.size w0 [(1, some (.ro A (flatR la))), (2, some (.ro A2 (flatR lq))), (3, some (.ro A3 (ls.map (Value.int .i64)))), (4, some (.ro A4 (flatR lm))), (5, some (.row bb1 27 #[.slice A la.length ca, .slice A2 lq.length cq_, .int .i64 now, .slice A3 ls.length cs, .slice A4 lm.length cm])), (6, some (.row bb2 57 #[.int .i64 (rc la k 0), .int .i64 (rc la k 1), .int .i64 (rc la k 2), .int .i64 (rc la k 3), .int .i64 (rc la k 4), .int .i64 (rc la k 5), .int .i64 (rc la k 6)]))] w ∧ ((gg : Int) ≤ (k : Int)) ∧ (∀ j, j < gg → ¬ (rc la j 0 = rc la k 0 ∧ rc la j 1 = rc la k 1))) (fun gg => k - gg) (0) ?_ ?_
            ·refine ⟨(((((Fr.nil hF).c hF (i := 4) rfl rfl).c hF (i := 3) rfl rfl).c hF (i := 1) rfl rfl).c hF (i := 5) rfl (vi (show (0 : Int) = (0 : Int) from by omega))), (hM.sub ((((((Sub.nil.c (k := 6) rfl rfl).c (k := 5) rfl rfl).c (k := 4) rfl rfl).c (k := 3) rfl rfl).c (k := 2) rfl rfl).c (k := 1) rfl rfl)), (show (0 : Int) ≤ (k : Int) from by omega), (show ∀ j, j < 0 → ¬ (rc la j 0 = rc la k 0 ∧ rc la j 1 = rc la k 1) from by exact fun j hj => by omega)⟩
            ·intro gg a w hI
             intro K26 hK26
             obtain ⟨m, rfl⟩ : ∃ x, x = gg := ⟨_, rfl⟩
             try dsimp only at hI hK26
             obtain ⟨hF, hM, hz19, hz20⟩ := hI
             refine wp_seq_k fun K27 hK27 => ?_
             refine wp_seq_k fun K28 hK28 => ?_
             refine wp_region_lit ?_
             refine sB 3 [(79, .int .i64 (m : Int)), (80, .int .i64 (k : Int)), (81, .bool (decide ((m : Int) < (k : Int))))] hF (by kernel_rfl) fun a hF => ?_
             refine wpList_nil ?_
             refine hK28 _ _ ?_
             by_cases hz21 : (m : Int) < (k : Int)
             ·skip
              replace hF := hF.c hF (i := 81) (v := .bool true) rfl (bT hz21)
              refine cT hF (by kernel_rfl) (by kernel_rfl) ?_
              refine wp_skip ?_
              refine hK27 _ _ ?_
              refine wp_seq_k fun K29 hK29 => ?_
              refine wp_block ?_
              refine wp_seq_k fun K30 hK30 => ?_
              by_cases hz22 : rc la m 0 = rc la k 0
              ·skip
               refine rQ hM (by kernel_rfl) (by kernel_rfl) ?_
               refine eQ 84 (v0 := .pointer (some ⟨bb1, 0, none⟩)) (v := .pointer (some ⟨bb1, 0, none⟩)) hF (by kernel_rfl) (fun _ => by kernel_rfl) rfl fun a hF => ?_
               refine eQL 85 5 0 (v := .slice A la.length ca) hF (by kernel_rfl) rfl rfl (by kernel_rfl) (by kernel_rfl) fun a hF => ?_
               refine eQ 86 (v0 := .int .i64 (m : Int)) (v := .int .i64 (m : Int)) hF (by kernel_rfl) (fun _ => by kernel_rfl) rfl fun a hF => ?_
               refine eQ2 87 (v := .pointer (some (ea A (m * 7)))) hF (by kernel_rfl) (yld_ix (kd := .i64) (e := 57) (len := la.length) (cap := ca) (i := (m : Int)) (size := 7) (A := A) hF rfl (by kernel_rfl) (by kernel_rfl) (by kernel_rfl) (by kernel_rfl) (by kernel_rfl) (roK 1 rfl) (by omega) (by omega) (by rw [flatR_length hW]; (try simp only [List.length_map, List.length_append, List.length_replicate, List.length_set, List.length_cons, List.length_nil, flat2_length, List.length_take]); omega)) fun a hF => ?_
               refine eQ 88 (v0 := .pointer (some (ea A (m * 7)))) (v := .pointer (some (ea A (m * 7)))) hF (by kernel_rfl) (fun _ => by kernel_rfl) rfl fun a hF => ?_
               refine eQ2 89 (v := .int .i64 (rc la m 0)) hF (by kernel_rfl) (yld_ro1 (A := A) (j := m * 7) hF rfl (by kernel_rfl) (by kernel_rfl) (roK 1 rfl) (by kernel_rfl) (rc_at (k := m) (i := 0) hW (by omega) (by decide))) fun a hF => ?_
               refine eQ 90 (v0 := .pointer (some ⟨bb2, 0, none⟩)) (v := .pointer (some ⟨bb2, 0, none⟩)) hF (by kernel_rfl) (fun _ => by kernel_rfl) rfl fun a hF => ?_
               refine eQL 91 6 0 (v := .int .i64 (rc la k 0)) hF (by kernel_rfl) rfl rfl (by kernel_rfl) (by kernel_rfl) fun a hF => ?_
               refine eQ 92 (v0 := .bool (decide (rc la m 0 = rc la k 0))) (v := .bool true) hF (by kernel_rfl) (fun _ => by kernel_rfl) (bT hz22) fun a hF => ?_
               refine eQ 93 (v0 := .bool true) (v := .bool true) hF (by kernel_rfl) (fun _ => by kernel_rfl) rfl fun a hF => ?_
               refine eQ 94 (v0 := .pointer (some ⟨bb1, 0, none⟩)) (v := .pointer (some ⟨bb1, 0, none⟩)) hF (by kernel_rfl) (fun _ => by kernel_rfl) rfl fun a hF => ?_
               refine eQL 95 5 0 (v := .slice A la.length ca) hF (by kernel_rfl) rfl rfl (by kernel_rfl) (by kernel_rfl) fun a hF => ?_
               refine eQ 96 (v0 := .int .i64 (m : Int)) (v := .int .i64 (m : Int)) hF (by kernel_rfl) (fun _ => by kernel_rfl) rfl fun a hF => ?_
               refine eQ2 97 (v := .pointer (some (ea A (m * 7)))) hF (by kernel_rfl) (yld_ix (kd := .i64) (e := 57) (len := la.length) (cap := ca) (i := (m : Int)) (size := 7) (A := A) hF rfl (by kernel_rfl) (by kernel_rfl) (by kernel_rfl) (by kernel_rfl) (by kernel_rfl) (roK 1 rfl) (by omega) (by omega) (by rw [flatR_length hW]; (try simp only [List.length_map, List.length_append, List.length_replicate, List.length_set, List.length_cons, List.length_nil, flat2_length, List.length_take]); omega)) fun a hF => ?_
               refine eQ 98 (v0 := .pointer (some (ea A (m * 7 + 1)))) (v := .pointer (some (ea A (m * 7 + 1)))) hF (by kernel_rfl) (fun _ => by kernel_rfl) rfl fun a hF => ?_
               refine eQ2 99 (v := .int .i64 (rc la m 1)) hF (by kernel_rfl) (yld_ro1 (A := A) (j := m * 7 + 1) hF rfl (by kernel_rfl) (by kernel_rfl) (roK 1 rfl) (by kernel_rfl) (rc_at (k := m) (i := 1) hW (by omega) (by decide))) fun a hF => ?_
               refine eQ 100 (v0 := .pointer (some ⟨bb2, 1, none⟩)) (v := .pointer (some ⟨bb2, 1, none⟩)) hF (by kernel_rfl) (fun _ => by kernel_rfl) rfl fun a hF => ?_
               refine eQL 101 6 1 (v := .int .i64 (rc la k 1)) hF (by kernel_rfl) rfl rfl (by kernel_rfl) (by kernel_rfl) fun a hF => ?_
               refine eQ 102 (v0 := .bool (decide (rc la m 1 = rc la k 1))) (v := .bool (decide (rc la m 1 = rc la k 1))) hF (by kernel_rfl) (fun _ => by kernel_rfl) rfl fun a hF => ?_
               refine eQ 103 (v0 := .bool (decide (rc la m 1 = rc la k 1))) (v := .bool (decide (rc la m 1 = rc la k 1))) hF (by kernel_rfl) (fun _ => by kernel_rfl) rfl fun a hF => ?_
               refine wpQuiet_nil ?_
               intro w hM
               refine hK30 _ _ ?_
               by_cases hz23 : rc la m 1 = rc la k 1
               ·skip
                replace hF := hF.c hF (i := 102) (v := .bool true) rfl (bT hz23)
                replace hF := hF.c hF (i := 103) (v := .bool true) rfl (bT hz23)
                refine cT hF (by kernel_rfl) (by kernel_rfl) ?_
                refine wp_seq_k fun K31 hK31 => ?_
                refine wp_region_lit ?_
                refine sB 1 [(2, .bool false)] hF (by kernel_rfl) fun a hF => ?_
                refine wpList_nil ?_
                refine hK31 _ _ ?_
                refine wp_ret ?_
                refine hR0 _ _ ?_
                refine ret_of hF hM (.tmp rfl (.nil)) ?_
                exact ⟨ret_bool (fr_no (fun z => by have z1 := fl_A z (k := k) (by omega); have z2 := z1.2; unfold okL at z2; first | omega | exact z1.1.2 m (by omega) (by omega))), hM.bel⟩
               ·skip
                replace hF := hF.c hF (i := 102) (v := .bool false) rfl (bF hz23)
                replace hF := hF.c hF (i := 103) (v := .bool false) rfl (bF hz23)
                refine cF hF (by kernel_rfl) (by kernel_rfl) ?_
                refine wp_skip ?_
                refine hK29 _ _ ?_
                refine wp_region_lit ?_
                refine sB 1 [(82, .int .i64 (m : Int))] hF (by kernel_rfl) fun a hF => ?_
                refine wl (eP 83 (v0 := .int .i64 (IntKind.i64.wrap ((m : Int) + 1))) (v := .int .i64 ((m : Int) + 1)) hF (by kernel_rfl) (fun _ => by kernel_rfl) (wi (by omega)) fun a hF => ?_)
                refine sB 1 [(5, .int .i64 ((m : Int) + 1))] hF (by kernel_rfl) fun a hF => ?_
                refine wpList_nil ?_
                refine hK26 _ _ ⟨(m + 1), ⟨(((((Fr.nil hF).c hF (i := 4) rfl rfl).c hF (i := 3) rfl rfl).c hF (i := 1) rfl rfl).c hF (i := 5) rfl (vi (show ((m : Int) + 1 : Int) = ((m + 1) : Int) from by omega))), (hM.sub ((((((Sub.nil.c (k := 6) rfl rfl).c (k := 5) rfl rfl).c (k := 4) rfl rfl).c (k := 3) rfl rfl).c (k := 2) rfl rfl).c (k := 1) rfl rfl)), (show ((m + 1) : Int) ≤ (k : Int) from by omega), (show ∀ j, j < (m + 1) → ¬ (rc la j 0 = rc la k 0 ∧ rc la j 1 = rc la k 1) from by exact all_next (by assumption) (by omega))⟩, (show k - (m + 1) < k - m from by omega)⟩
              ·skip
               refine rQ hM (by kernel_rfl) (by kernel_rfl) ?_
               refine eQ 84 (v0 := .pointer (some ⟨bb1, 0, none⟩)) (v := .pointer (some ⟨bb1, 0, none⟩)) hF (by kernel_rfl) (fun _ => by kernel_rfl) rfl fun a hF => ?_
               refine eQL 85 5 0 (v := .slice A la.length ca) hF (by kernel_rfl) rfl rfl (by kernel_rfl) (by kernel_rfl) fun a hF => ?_
               refine eQ 86 (v0 := .int .i64 (m : Int)) (v := .int .i64 (m : Int)) hF (by kernel_rfl) (fun _ => by kernel_rfl) rfl fun a hF => ?_
               refine eQ2 87 (v := .pointer (some (ea A (m * 7)))) hF (by kernel_rfl) (yld_ix (kd := .i64) (e := 57) (len := la.length) (cap := ca) (i := (m : Int)) (size := 7) (A := A) hF rfl (by kernel_rfl) (by kernel_rfl) (by kernel_rfl) (by kernel_rfl) (by kernel_rfl) (roK 1 rfl) (by omega) (by omega) (by rw [flatR_length hW]; (try simp only [List.length_map, List.length_append, List.length_replicate, List.length_set, List.length_cons, List.length_nil, flat2_length, List.length_take]); omega)) fun a hF => ?_
               refine eQ 88 (v0 := .pointer (some (ea A (m * 7)))) (v := .pointer (some (ea A (m * 7)))) hF (by kernel_rfl) (fun _ => by kernel_rfl) rfl fun a hF => ?_
               refine eQ2 89 (v := .int .i64 (rc la m 0)) hF (by kernel_rfl) (yld_ro1 (A := A) (j := m * 7) hF rfl (by kernel_rfl) (by kernel_rfl) (roK 1 rfl) (by kernel_rfl) (rc_at (k := m) (i := 0) hW (by omega) (by decide))) fun a hF => ?_
               refine eQ 90 (v0 := .pointer (some ⟨bb2, 0, none⟩)) (v := .pointer (some ⟨bb2, 0, none⟩)) hF (by kernel_rfl) (fun _ => by kernel_rfl) rfl fun a hF => ?_
               refine eQL 91 6 0 (v := .int .i64 (rc la k 0)) hF (by kernel_rfl) rfl rfl (by kernel_rfl) (by kernel_rfl) fun a hF => ?_
               refine eQ 92 (v0 := .bool (decide (rc la m 0 = rc la k 0))) (v := .bool false) hF (by kernel_rfl) (fun _ => by kernel_rfl) (bF hz22) fun a hF => ?_
               refine eQ 93 (v0 := .bool false) (v := .bool false) hF (by kernel_rfl) (fun _ => by kernel_rfl) rfl fun a hF => ?_
               refine qSkip hF (by kernel_rfl) rfl (by decide) fun a hF => ?_
               refine qSkip hF (by kernel_rfl) rfl (by decide) fun a hF => ?_
               refine qSkip hF (by kernel_rfl) rfl (by decide) fun a hF => ?_
               refine qSkip hF (by kernel_rfl) rfl (by decide) fun a hF => ?_
               refine qSkip hF (by kernel_rfl) rfl (by decide) fun a hF => ?_
               refine qSkip hF (by kernel_rfl) rfl (by decide) fun a hF => ?_
               refine qSkip hF (by kernel_rfl) rfl (by decide) fun a hF => ?_
               refine qSkip hF (by kernel_rfl) rfl (by decide) fun a hF => ?_
               refine qSkip hF (by kernel_rfl) rfl (by decide) fun a hF => ?_
               refine eQ 103 (v0 := .bool false) (v := .bool false) hF (by kernel_rfl) (fun _ => by kernel_rfl) rfl fun a hF => ?_
               refine wpQuiet_nil ?_
               intro w hM
               refine hK30 _ _ ?_
               refine cF hF (by kernel_rfl) (by kernel_rfl) ?_
               refine wp_skip ?_
               refine hK29 _ _ ?_
               refine wp_region_lit ?_
               refine sB 1 [(82, .int .i64 (m : Int))] hF (by kernel_rfl) fun a hF => ?_
               refine wl (eP 83 (v0 := .int .i64 (IntKind.i64.wrap ((m : Int) + 1))) (v := .int .i64 ((m : Int) + 1)) hF (by kernel_rfl) (fun _ => by kernel_rfl) (wi (by omega)) fun a hF => ?_)
               refine sB 1 [(5, .int .i64 ((m : Int) + 1))] hF (by kernel_rfl) fun a hF => ?_
               refine wpList_nil ?_
               refine hK26 _ _ ⟨(m + 1), ⟨(((((Fr.nil hF).c hF (i := 4) rfl rfl).c hF (i := 3) rfl rfl).c hF (i := 1) rfl rfl).c hF (i := 5) rfl (vi (show ((m : Int) + 1 : Int) = ((m + 1) : Int) from by omega))), (hM.sub ((((((Sub.nil.c (k := 6) rfl rfl).c (k := 5) rfl rfl).c (k := 4) rfl rfl).c (k := 3) rfl rfl).c (k := 2) rfl rfl).c (k := 1) rfl rfl)), (show ((m + 1) : Int) ≤ (k : Int) from by omega), (show ∀ j, j < (m + 1) → ¬ (rc la j 0 = rc la k 0 ∧ rc la j 1 = rc la k 1) from by exact all_next (by assumption) (by omega))⟩, (show k - (m + 1) < k - m from by omega)⟩
             ·skip
              replace hF := hF.c hF (i := 81) (v := .bool false) rfl (bF hz21)
              refine cF hF (by kernel_rfl) (by kernel_rfl) ?_
              refine wp_exit ?_
              refine hK11 _ _ ?_
              refine wp_region_lit ?_
              refine sB 1 [(48, .int .i64 (k : Int))] hF (by kernel_rfl) fun a hF => ?_
              refine wl (eP 49 (v0 := .int .i64 (IntKind.i64.wrap ((k : Int) + 1))) (v := .int .i64 ((k : Int) + 1)) hF (by kernel_rfl) (fun _ => by kernel_rfl) (wi (by omega)) fun a hF => ?_)
              refine sB 1 [(3, .int .i64 ((k : Int) + 1))] hF (by kernel_rfl) fun a hF => ?_
              refine wpList_nil ?_
              refine hK8 _ _ ⟨(k + 1), ⟨(((Fr.nil hF).c hF (i := 1) rfl rfl).c hF (i := 3) rfl (vi (show ((k : Int) + 1 : Int) = ((k + 1) : Int) from by omega))), (hM.sub (((((Sub.nil.c (k := 5) rfl rfl).c (k := 4) rfl rfl).c (k := 3) rfl rfl).c (k := 2) rfl rfl).c (k := 1) rfl rfl)), (show ((k + 1) : Int) ≤ (la.length : Int) from by omega), (show ∀ j, j < (k + 1) → okA la j ∧ okL la ls j from by exact all_next (by assumption) ⟨(okA_iff (by omega)).2 ⟨hz10, fun j hj => ‹∀ j, j < m → ¬ (rc la j 0 = rc la k 0 ∧ rc la j 1 = rc la k 1)› j (by omega)⟩, by unfold okL; omega⟩)⟩, (show la.length - (k + 1) < la.length - k from by omega)⟩
        ·skip
         replace hF := hF.c hF (i := 47) (v := .bool false) rfl (bF hz9)
         refine cF hF (by kernel_rfl) (by kernel_rfl) ?_
         refine wp_exit ?_
         refine hK6 _ _ ?_
         refine wp_seq_k fun K32 hK32 => ?_
         refine wp_seq_k fun K33 hK33 => ?_
         refine wp_region_lit ?_
         refine sB 1 [(6, .int .i64 0)] hF (by kernel_rfl) fun a hF => ?_
         refine wpList_nil ?_
         refine hK33 _ _ ?_
         refine wp_block ?_
         refine wp_loop_k (G := Nat) (fun gg a w => Fr 159 [(6, some (.int .i64 (gg : Int))), (1, some (.pointer (some ⟨bb1, 0, none⟩)))] a ∧ Mem w0.heap.size w0 [(1, some (.ro A (flatR la))), (2, some (.ro A2 (flatR lq))), (3, some (.ro A3 (ls.map (Value.int .i64)))), (4, some (.ro A4 (flatR lm))), (5, some (.row bb1 27 #[.slice A la.length ca, .slice A2 lq.length cq_, .int .i64 now, .slice A3 ls.length cs, .slice A4 lm.length cm]))] w ∧ ((gg : Int) ≤ (lq.length : Int)) ∧ (∀ j, j < gg → okP lq j ∧ okM lq lm now j)) (fun gg => lq.length - gg) (0) ?_ ?_
         ·refine ⟨(((Fr.nil hF).c hF (i := 1) rfl rfl).c hF (i := 6) rfl (vi (show (0 : Int) = (0 : Int) from by omega))), (hM.sub (((((Sub.nil.c (k := 5) rfl rfl).c (k := 4) rfl rfl).c (k := 3) rfl rfl).c (k := 2) rfl rfl).c (k := 1) rfl rfl)), (show (0 : Int) ≤ (lq.length : Int) from by omega), (show ∀ j, j < 0 → okP lq j ∧ okM lq lm now j from by exact fun j hj => by omega)⟩
         ·intro gg a w hI
          intro K34 hK34
          obtain ⟨q, rfl⟩ : ∃ x, x = gg := ⟨_, rfl⟩
          try dsimp only at hI hK34
          obtain ⟨hF, hM, hz24, hz25⟩ := hI
          refine wp_seq_k fun K35 hK35 => ?_
          refine wp_seq_k fun K36 hK36 => ?_
          refine wp_region_lit ?_
          refine sB 2 [(104, .int .i64 (q : Int)), (105, .pointer (some ⟨bb1, 1, none⟩))] hF (by kernel_rfl) fun a hF => ?_
          refine wl (eL 106 5 1 (v := .slice A2 lq.length cq_) hF hM (by kernel_rfl) rfl rfl (by kernel_rfl) (by kernel_rfl) fun a w hF hM => ?_)
          refine sB 2 [(107, .int .i64 (lq.length : Int)), (108, .bool (decide ((q : Int) < (lq.length : Int))))] hF (by kernel_rfl) fun a hF => ?_
          refine wpList_nil ?_
          refine hK36 _ _ ?_
          by_cases hz26 : (q : Int) < (lq.length : Int)
          ·skip
           replace hF := hF.c hF (i := 108) (v := .bool true) rfl (bT hz26)
           refine cT hF (by kernel_rfl) (by kernel_rfl) ?_
           refine wp_skip ?_
           refine hK35 _ _ ?_
           refine wp_seq_k fun K37 hK37 => ?_
           refine wp_block ?_
           refine wp_seq_k fun K38 hK38 => ?_
           refine wp_region_lit ?_
           refine sB 1 [(111, .pointer (some ⟨bb1, 1, none⟩))] hF (by kernel_rfl) fun a hF => ?_
           refine wl (eL 112 5 1 (v := .slice A2 lq.length cq_) hF hM (by kernel_rfl) rfl rfl (by kernel_rfl) (by kernel_rfl) fun a w hF hM => ?_)
           refine sB 1 [(113, .int .i64 (q : Int))] hF (by kernel_rfl) fun a hF => ?_
           refine wl (eM 114 (v := .pointer (some (ea A2 (q * 5)))) hF hM (by kernel_rfl) (yld_ix (kd := .i64) (e := 69) (len := lq.length) (cap := cq_) (i := (q : Int)) (size := 5) (A := A2) hF rfl (by kernel_rfl) (by kernel_rfl) (by kernel_rfl) (by kernel_rfl) (by kernel_rfl) (roK 2 rfl) (by omega) (by omega) (by rw [flatR_length hW2]; (try simp only [List.length_map, List.length_append, List.length_replicate, List.length_set, List.length_cons, List.length_nil, flat2_length, List.length_take]); omega)) fun a w hF hM => ?_)
           refine wl (eM 115 (v := .agg #[.int .i64 (rc lq q 0), .int .i64 (rc lq q 1), .int .i64 (rc lq q 2), .int .i64 (rc lq q 3), .int .i64 (rc lq q 4)]) hF hM (by kernel_rfl) (yld_roM (A := A2) (j := q * 5) (us := [.int .i64 (rc lq q 0), .int .i64 (rc lq q 1), .int .i64 (rc lq q 2), .int .i64 (rc lq q 3), .int .i64 (rc lq q 4)]) hF rfl (by kernel_rfl) (by kernel_rfl) (roK 2 rfl) (by kernel_rfl) rfl (rc_sub (k := q) (f := 0) (m := 5) hW2 (by omega) (by decide) rfl)) fun a w hF hM => ?_)
           refine wl (eN 7 7 (t := 69) (fun b => .pointer (some ⟨b, 0, none⟩)) #[.int .i64 0, .int .i64 0, .int .i64 0, .int .i64 0, .int .i64 0] hF hM (by kernel_rfl) (fun _ => by kernel_rfl) fun bb3 a w hF hM => ?_)
           refine wl (sStore (i := 7) (off := 0) (cs' := #[.int .i64 (rc lq q 0), .int .i64 (rc lq q 1), .int .i64 (rc lq q 2), .int .i64 (rc lq q 3), .int .i64 (rc lq q 4)]) hF hM (by kernel_rfl) rfl rfl (by kernel_rfl) (by kernel_rfl) rfl (by kernel_rfl) fun w hM => ?_)
           refine wpList_nil ?_
           refine hK38 _ _ ?_
           refine wp_seq_k fun K39 hK39 => ?_
           refine wp_seq_k fun K40 hK40 => ?_
           by_cases hz27 : 0 ≤ rc lq q 0
           ·skip
            by_cases hz28 : rc lq q 0 ≤ 47
            ·skip
             by_cases hz29 : mtE (rc lq q 1) (rc lq q 2) (rc lq q 3) (rc lq q 4) (rc lm q 0) (rc lm q 1) (rc lm q 2) = 0
             ·skip
              have hz30 := mtE_ok hz29
              have hz31 := hz30.1
              have hz32 := newE_ok hz31
              refine rQ hM (by kernel_rfl) (by kernel_rfl) ?_
              refine eQ 116 (v0 := .pointer (some ⟨bb3, 0, none⟩)) (v := .pointer (some ⟨bb3, 0, none⟩)) hF (by kernel_rfl) (fun _ => by kernel_rfl) rfl fun a hF => ?_
              refine eQL 117 7 0 (v := .int .i64 (rc lq q 0)) hF (by kernel_rfl) rfl rfl (by kernel_rfl) (by kernel_rfl) fun a hF => ?_
              refine eQ2 118 (v := .bool true) hF (by kernel_rfl) (yld_call (f := 27) (args := #[.int .i64 (rc lq q 0), .int .i64 0, .int .i64 47]) hF (by kernel_rfl) (fun _ => by kernel_rfl) (fun w hM => rin_yes (rc lq q 0) 0 47 w hz27 hz28)) fun a hF => ?_
              refine eQ 119 (v0 := .bool false) (v := .bool false) hF (by kernel_rfl) (fun _ => by kernel_rfl) rfl fun a hF => ?_
              refine eQ 120 (v0 := .bool false) (v := .bool false) hF (by kernel_rfl) (fun _ => by kernel_rfl) rfl fun a hF => ?_
              refine eQ 121 (v0 := .pointer (some ⟨bb3, 1, none⟩)) (v := .pointer (some ⟨bb3, 1, none⟩)) hF (by kernel_rfl) (fun _ => by kernel_rfl) rfl fun a hF => ?_
              refine eQL 122 7 1 (v := .agg #[.int .i64 (rc lq q 1), .int .i64 (rc lq q 2)]) hF (by kernel_rfl) rfl rfl (by kernel_rfl) (by kernel_rfl) fun a hF => ?_
              refine eQ 123 (v0 := .pointer (some ⟨bb3, 3, none⟩)) (v := .pointer (some ⟨bb3, 3, none⟩)) hF (by kernel_rfl) (fun _ => by kernel_rfl) rfl fun a hF => ?_
              refine eQL 124 7 3 (v := .agg #[.int .i64 (rc lq q 3), .int .i64 (rc lq q 4)]) hF (by kernel_rfl) rfl rfl (by kernel_rfl) (by kernel_rfl) fun a hF => ?_
              refine eQ 125 (v0 := .pointer (some ⟨bb1, 4, none⟩)) (v := .pointer (some ⟨bb1, 4, none⟩)) hF (by kernel_rfl) (fun _ => by kernel_rfl) rfl fun a hF => ?_
              refine eQL 126 5 4 (v := .slice A4 lm.length cm) hF (by kernel_rfl) rfl rfl (by kernel_rfl) (by kernel_rfl) fun a hF => ?_
              refine eQ 127 (v0 := .int .i64 (q : Int)) (v := .int .i64 (q : Int)) hF (by kernel_rfl) (fun _ => by kernel_rfl) rfl fun a hF => ?_
              refine eQ2 128 (v := .pointer (some (ea A4 (q * 3)))) hF (by kernel_rfl) (yld_ix (kd := .i64) (e := 80) (len := lm.length) (cap := cm) (i := (q : Int)) (size := 3) (A := A4) hF rfl (by kernel_rfl) (by kernel_rfl) (by kernel_rfl) (by kernel_rfl) (by kernel_rfl) (roK 4 rfl) (by omega) (by omega) (by rw [flatR_length hW4]; (try simp only [List.length_map, List.length_append, List.length_replicate, List.length_set, List.length_cons, List.length_nil, flat2_length, List.length_take]); omega)) fun a hF => ?_
              refine eQ2 129 (v := .agg #[.int .i64 (rc lm q 0), .int .i64 (rc lm q 1), .int .i64 (rc lm q 2)]) hF (by kernel_rfl) (yld_roM (A := A4) (j := q * 3) (us := [.int .i64 (rc lm q 0), .int .i64 (rc lm q 1), .int .i64 (rc lm q 2)]) hF rfl (by kernel_rfl) (by kernel_rfl) (roK 4 rfl) (by kernel_rfl) rfl (rc_sub (k := q) (f := 0) (m := 3) hW4 (by omega) (by decide) rfl)) fun a hF => ?_
              refine eQ2 130 (v := .int .i64 (mtE (rc lq q 1) (rc lq q 2) (rc lq q 3) (rc lq q 4) (rc lm q 0) (rc lm q 1) (rc lm q 2))) hF (by kernel_rfl) (yld_call (f := 29) (args := #[.agg #[.int .i64 (rc lq q 1), .int .i64 (rc lq q 2)], .agg #[.int .i64 (rc lq q 3), .int .i64 (rc lq q 4)], .agg #[.int .i64 (rc lm q 0), .int .i64 (rc lm q 1), .int .i64 (rc lm q 2)]]) hF (by kernel_rfl) (fun _ => by kernel_rfl) (fun w hM => refCheck_w (rc lq q 1) (rc lq q 2) (rc lq q 3) (rc lq q 4) (rc lm q 0) (rc lm q 1) (rc lm q 2) w)) fun a hF => ?_
              refine eQ 131 (v0 := .bool (!decide (mtE (rc lq q 1) (rc lq q 2) (rc lq q 3) (rc lq q 4) (rc lm q 0) (rc lm q 1) (rc lm q 2) = 0))) (v := .bool false) hF (by kernel_rfl) (fun _ => by kernel_rfl) (nT hz29) fun a hF => ?_
              refine eQ 132 (v0 := .bool false) (v := .bool false) hF (by kernel_rfl) (fun _ => by kernel_rfl) rfl fun a hF => ?_
              refine eQ 133 (v0 := .bool false) (v := .bool false) hF (by kernel_rfl) (fun _ => by kernel_rfl) rfl fun a hF => ?_
              refine eQ 134 (v0 := .pointer (some ⟨bb1, 4, none⟩)) (v := .pointer (some ⟨bb1, 4, none⟩)) hF (by kernel_rfl) (fun _ => by kernel_rfl) rfl fun a hF => ?_
              refine eQL 135 5 4 (v := .slice A4 lm.length cm) hF (by kernel_rfl) rfl rfl (by kernel_rfl) (by kernel_rfl) fun a hF => ?_
              refine eQ 136 (v0 := .int .i64 (q : Int)) (v := .int .i64 (q : Int)) hF (by kernel_rfl) (fun _ => by kernel_rfl) rfl fun a hF => ?_
              refine eQ2 137 (v := .pointer (some (ea A4 (q * 3)))) hF (by kernel_rfl) (yld_ix (kd := .i64) (e := 80) (len := lm.length) (cap := cm) (i := (q : Int)) (size := 3) (A := A4) hF rfl (by kernel_rfl) (by kernel_rfl) (by kernel_rfl) (by kernel_rfl) (by kernel_rfl) (roK 4 rfl) (by omega) (by omega) (by rw [flatR_length hW4]; (try simp only [List.length_map, List.length_append, List.length_replicate, List.length_set, List.length_cons, List.length_nil, flat2_length, List.length_take]); omega)) fun a hF => ?_
              refine eQ 138 (v0 := .pointer (some (ea A4 (q * 3)))) (v := .pointer (some (ea A4 (q * 3)))) hF (by kernel_rfl) (fun _ => by kernel_rfl) rfl fun a hF => ?_
              refine eQ2 139 (v := .int .i64 (rc lm q 0)) hF (by kernel_rfl) (yld_ro1 (A := A4) (j := q * 3) hF rfl (by kernel_rfl) (by kernel_rfl) (roK 4 rfl) (by kernel_rfl) (rc_at (k := q) (i := 0) hW4 (by omega) (by decide))) fun a hF => ?_
              refine eQ 140 (v0 := .pointer (some ⟨bb1, 2, none⟩)) (v := .pointer (some ⟨bb1, 2, none⟩)) hF (by kernel_rfl) (fun _ => by kernel_rfl) rfl fun a hF => ?_
              refine eQL 141 5 2 (v := .int .i64 now) hF (by kernel_rfl) rfl rfl (by kernel_rfl) (by kernel_rfl) fun a hF => ?_
              refine eQ 142 (v0 := .int .i64 (IntKind.i64.wrap (now + 1000))) (v := .int .i64 (now + 1000)) hF (by kernel_rfl) (fun _ => by kernel_rfl) (wi (by omega)) fun a hF => ?_
              refine eQ 143 (v0 := .bool (decide (now + 1000 < rc lm q 0))) (v := .bool (decide (now + 1000 < rc lm q 0))) hF (by kernel_rfl) (fun _ => by kernel_rfl) rfl fun a hF => ?_
              refine eQ 144 (v0 := .bool (decide (now + 1000 < rc lm q 0))) (v := .bool (decide (now + 1000 < rc lm q 0))) hF (by kernel_rfl) (fun _ => by kernel_rfl) rfl fun a hF => ?_
              refine wpQuiet_nil ?_
              intro w hM
              refine hK40 _ _ ?_
              by_cases hz33 : now + 1000 < rc lm q 0
              ·skip
               replace hF := hF.c hF (i := 143) (v := .bool true) rfl (bT hz33)
               replace hF := hF.c hF (i := 144) (v := .bool true) rfl (bT hz33)
               refine cT hF (by kernel_rfl) (by kernel_rfl) ?_
               refine wp_seq_k fun K41 hK41 => ?_
               refine wp_region_lit ?_
               refine sB 1 [(2, .bool false)] hF (by kernel_rfl) fun a hF => ?_
               refine wpList_nil ?_
               refine hK41 _ _ ?_
               refine wp_ret ?_
               refine hR0 _ _ ?_
               refine ret_of hF hM (.tmp rfl (.nil)) ?_
               exact ⟨ret_bool (fr_no (fun z => by have z1 := fl_Q z (k := q) (by omega); have z2 := z1.2; unfold okM at z2; have z3 := of_decide_eq_true z1.1.1; first | omega | exact z1.1.2 m (by omega) (by omega) | exact absurd z2.1 (by assumption))), hM.bel⟩
              ·skip
               replace hF := hF.c hF (i := 143) (v := .bool false) rfl (bF hz33)
               replace hF := hF.c hF (i := 144) (v := .bool false) rfl (bF hz33)
               refine cF hF (by kernel_rfl) (by kernel_rfl) ?_
               refine wp_skip ?_
               refine hK39 _ _ ?_
               refine wp_seq_k fun K42 hK42 => ?_
               refine wp_region_lit ?_
               refine sB 1 [(8, .int .i64 0)] hF (by kernel_rfl) fun a hF => ?_
               refine wpList_nil ?_
               refine hK42 _ _ ?_
               refine wp_block ?_
               refine wp_loop_k (G := Nat) (fun gg a w => Fr 159 [(8, some (.int .i64 (gg : Int))), (1, some (.pointer (some ⟨bb1, 0, none⟩))), (6, some (.int .i64 (q : Int))), (7, some (.pointer (some ⟨bb3, 0, none⟩)))] a ∧ Mem w0.heap.size w0 [(1, some (.ro A (flatR la))), (2, some (.ro A2 (flatR lq))), (3, some (.ro A3 (ls.map (Value.int .i64)))), (4, some (.ro A4 (flatR lm))), (5, some (.row bb1 27 #[.slice A la.length ca, .slice A2 lq.length cq_, .int .i64 now, .slice A3 ls.length cs, .slice A4 lm.length cm])), (7, some (.row bb3 69 #[.int .i64 (rc lq q 0), .int .i64 (rc lq q 1), .int .i64 (rc lq q 2), .int .i64 (rc lq q 3), .int .i64 (rc lq q 4)]))] w ∧ ((gg : Int) ≤ (q : Int)) ∧ (∀ j, j < gg → ¬ rc lq j 0 = rc lq q 0)) (fun gg => q - gg) (0) ?_ ?_
               ·refine ⟨(((((Fr.nil hF).c hF (i := 7) rfl rfl).c hF (i := 6) rfl rfl).c hF (i := 1) rfl rfl).c hF (i := 8) rfl (vi (show (0 : Int) = (0 : Int) from by omega))), (hM.sub ((((((Sub.nil.c (k := 7) rfl rfl).c (k := 5) rfl rfl).c (k := 4) rfl rfl).c (k := 3) rfl rfl).c (k := 2) rfl rfl).c (k := 1) rfl rfl)), (show (0 : Int) ≤ (q : Int) from by omega), (show ∀ j, j < 0 → ¬ rc lq j 0 = rc lq q 0 from by exact fun j hj => by omega)⟩
               ·intro gg a w hI
                intro K43 hK43
                obtain ⟨m, rfl⟩ : ∃ x, x = gg := ⟨_, rfl⟩
                try dsimp only at hI hK43
                obtain ⟨hF, hM, hz34, hz35⟩ := hI
                refine wp_seq_k fun K44 hK44 => ?_
                refine wp_seq_k fun K45 hK45 => ?_
                refine wp_region_lit ?_
                refine sB 3 [(145, .int .i64 (m : Int)), (146, .int .i64 (q : Int)), (147, .bool (decide ((m : Int) < (q : Int))))] hF (by kernel_rfl) fun a hF => ?_
                refine wpList_nil ?_
                refine hK45 _ _ ?_
                by_cases hz36 : (m : Int) < (q : Int)
                ·skip
                 replace hF := hF.c hF (i := 147) (v := .bool true) rfl (bT hz36)
                 refine cT hF (by kernel_rfl) (by kernel_rfl) ?_
                 refine wp_skip ?_
                 refine hK44 _ _ ?_
                 refine wp_seq_k fun K46 hK46 => ?_
                 refine wp_block ?_
                 refine wp_seq_k fun K47 hK47 => ?_
                 refine rQ hM (by kernel_rfl) (by kernel_rfl) ?_
                 refine eQ 150 (v0 := .pointer (some ⟨bb1, 1, none⟩)) (v := .pointer (some ⟨bb1, 1, none⟩)) hF (by kernel_rfl) (fun _ => by kernel_rfl) rfl fun a hF => ?_
                 refine eQL 151 5 1 (v := .slice A2 lq.length cq_) hF (by kernel_rfl) rfl rfl (by kernel_rfl) (by kernel_rfl) fun a hF => ?_
                 refine eQ 152 (v0 := .int .i64 (m : Int)) (v := .int .i64 (m : Int)) hF (by kernel_rfl) (fun _ => by kernel_rfl) rfl fun a hF => ?_
                 refine eQ2 153 (v := .pointer (some (ea A2 (m * 5)))) hF (by kernel_rfl) (yld_ix (kd := .i64) (e := 69) (len := lq.length) (cap := cq_) (i := (m : Int)) (size := 5) (A := A2) hF rfl (by kernel_rfl) (by kernel_rfl) (by kernel_rfl) (by kernel_rfl) (by kernel_rfl) (roK 2 rfl) (by omega) (by omega) (by rw [flatR_length hW2]; (try simp only [List.length_map, List.length_append, List.length_replicate, List.length_set, List.length_cons, List.length_nil, flat2_length, List.length_take]); omega)) fun a hF => ?_
                 refine eQ 154 (v0 := .pointer (some (ea A2 (m * 5)))) (v := .pointer (some (ea A2 (m * 5)))) hF (by kernel_rfl) (fun _ => by kernel_rfl) rfl fun a hF => ?_
                 refine eQ2 155 (v := .int .i64 (rc lq m 0)) hF (by kernel_rfl) (yld_ro1 (A := A2) (j := m * 5) hF rfl (by kernel_rfl) (by kernel_rfl) (roK 2 rfl) (by kernel_rfl) (rc_at (k := m) (i := 0) hW2 (by omega) (by decide))) fun a hF => ?_
                 refine eQ 156 (v0 := .pointer (some ⟨bb3, 0, none⟩)) (v := .pointer (some ⟨bb3, 0, none⟩)) hF (by kernel_rfl) (fun _ => by kernel_rfl) rfl fun a hF => ?_
                 refine eQL 157 7 0 (v := .int .i64 (rc lq q 0)) hF (by kernel_rfl) rfl rfl (by kernel_rfl) (by kernel_rfl) fun a hF => ?_
                 refine eQ 158 (v0 := .bool (decide (rc lq m 0 = rc lq q 0))) (v := .bool (decide (rc lq m 0 = rc lq q 0))) hF (by kernel_rfl) (fun _ => by kernel_rfl) rfl fun a hF => ?_
                 refine wpQuiet_nil ?_
                 intro w hM
                 refine hK47 _ _ ?_
                 by_cases hz37 : rc lq m 0 = rc lq q 0
                 ·skip
                  replace hF := hF.c hF (i := 158) (v := .bool true) rfl (bT hz37)
                  refine cT hF (by kernel_rfl) (by kernel_rfl) ?_
                  refine wp_seq_k fun K48 hK48 => ?_
                  refine wp_region_lit ?_
                  refine sB 1 [(2, .bool false)] hF (by kernel_rfl) fun a hF => ?_
                  refine wpList_nil ?_
                  refine hK48 _ _ ?_
                  refine wp_ret ?_
                  refine hR0 _ _ ?_
                  refine ret_of hF hM (.tmp rfl (.nil)) ?_
                  exact ⟨ret_bool (fr_no (fun z => by have z1 := fl_Q z (k := q) (by omega); have z2 := z1.2; unfold okM at z2; have z3 := of_decide_eq_true z1.1.1; first | omega | exact z1.1.2 m (by omega) (by omega) | exact absurd z2.1 (by assumption))), hM.bel⟩
                 ·skip
                  replace hF := hF.c hF (i := 158) (v := .bool false) rfl (bF hz37)
                  refine cF hF (by kernel_rfl) (by kernel_rfl) ?_
                  refine wp_skip ?_
                  refine hK46 _ _ ?_
                  refine wp_region_lit ?_
                  refine sB 1 [(148, .int .i64 (m : Int))] hF (by kernel_rfl) fun a hF => ?_
                  refine wl (eP 149 (v0 := .int .i64 (IntKind.i64.wrap ((m : Int) + 1))) (v := .int .i64 ((m : Int) + 1)) hF (by kernel_rfl) (fun _ => by kernel_rfl) (wi (by omega)) fun a hF => ?_)
                  refine sB 1 [(8, .int .i64 ((m : Int) + 1))] hF (by kernel_rfl) fun a hF => ?_
                  refine wpList_nil ?_
                  refine hK43 _ _ ⟨(m + 1), ⟨(((((Fr.nil hF).c hF (i := 7) rfl rfl).c hF (i := 6) rfl rfl).c hF (i := 1) rfl rfl).c hF (i := 8) rfl (vi (show ((m : Int) + 1 : Int) = ((m + 1) : Int) from by omega))), (hM.sub ((((((Sub.nil.c (k := 7) rfl rfl).c (k := 5) rfl rfl).c (k := 4) rfl rfl).c (k := 3) rfl rfl).c (k := 2) rfl rfl).c (k := 1) rfl rfl)), (show ((m + 1) : Int) ≤ (q : Int) from by omega), (show ∀ j, j < (m + 1) → ¬ rc lq j 0 = rc lq q 0 from by exact all_next (by assumption) (by omega))⟩, (show q - (m + 1) < q - m from by omega)⟩
                ·skip
                 replace hF := hF.c hF (i := 147) (v := .bool false) rfl (bF hz36)
                 refine cF hF (by kernel_rfl) (by kernel_rfl) ?_
                 refine wp_exit ?_
                 refine hK37 _ _ ?_
                 refine wp_region_lit ?_
                 refine sB 1 [(109, .int .i64 (q : Int))] hF (by kernel_rfl) fun a hF => ?_
                 refine wl (eP 110 (v0 := .int .i64 (IntKind.i64.wrap ((q : Int) + 1))) (v := .int .i64 ((q : Int) + 1)) hF (by kernel_rfl) (fun _ => by kernel_rfl) (wi (by omega)) fun a hF => ?_)
                 refine sB 1 [(6, .int .i64 ((q : Int) + 1))] hF (by kernel_rfl) fun a hF => ?_
                 refine wpList_nil ?_
                 refine hK34 _ _ ⟨(q + 1), ⟨(((Fr.nil hF).c hF (i := 1) rfl rfl).c hF (i := 6) rfl (vi (show ((q : Int) + 1 : Int) = ((q + 1) : Int) from by omega))), (hM.sub (((((Sub.nil.c (k := 5) rfl rfl).c (k := 4) rfl rfl).c (k := 3) rfl rfl).c (k := 2) rfl rfl).c (k := 1) rfl rfl)), (show ((q + 1) : Int) ≤ (lq.length : Int) from by omega), (show ∀ j, j < (q + 1) → okP lq j ∧ okM lq lm now j from by exact all_next (by assumption) ⟨(okP_iff (by omega)).2 ⟨vp_of (by omega) hz29, fun j hj => ‹∀ j, j < m → ¬ rc lq j 0 = rc lq q 0› j (by omega)⟩, ⟨hz29, by omega⟩⟩)⟩, (show lq.length - (q + 1) < lq.length - q from by omega)⟩
             ·skip
              refine rQ hM (by kernel_rfl) (by kernel_rfl) ?_
              refine eQ 116 (v0 := .pointer (some ⟨bb3, 0, none⟩)) (v := .pointer (some ⟨bb3, 0, none⟩)) hF (by kernel_rfl) (fun _ => by kernel_rfl) rfl fun a hF => ?_
              refine eQL 117 7 0 (v := .int .i64 (rc lq q 0)) hF (by kernel_rfl) rfl rfl (by kernel_rfl) (by kernel_rfl) fun a hF => ?_
              refine eQ2 118 (v := .bool true) hF (by kernel_rfl) (yld_call (f := 27) (args := #[.int .i64 (rc lq q 0), .int .i64 0, .int .i64 47]) hF (by kernel_rfl) (fun _ => by kernel_rfl) (fun w hM => rin_yes (rc lq q 0) 0 47 w hz27 hz28)) fun a hF => ?_
              refine eQ 119 (v0 := .bool false) (v := .bool false) hF (by kernel_rfl) (fun _ => by kernel_rfl) rfl fun a hF => ?_
              refine eQ 120 (v0 := .bool false) (v := .bool false) hF (by kernel_rfl) (fun _ => by kernel_rfl) rfl fun a hF => ?_
              refine eQ 121 (v0 := .pointer (some ⟨bb3, 1, none⟩)) (v := .pointer (some ⟨bb3, 1, none⟩)) hF (by kernel_rfl) (fun _ => by kernel_rfl) rfl fun a hF => ?_
              refine eQL 122 7 1 (v := .agg #[.int .i64 (rc lq q 1), .int .i64 (rc lq q 2)]) hF (by kernel_rfl) rfl rfl (by kernel_rfl) (by kernel_rfl) fun a hF => ?_
              refine eQ 123 (v0 := .pointer (some ⟨bb3, 3, none⟩)) (v := .pointer (some ⟨bb3, 3, none⟩)) hF (by kernel_rfl) (fun _ => by kernel_rfl) rfl fun a hF => ?_
              refine eQL 124 7 3 (v := .agg #[.int .i64 (rc lq q 3), .int .i64 (rc lq q 4)]) hF (by kernel_rfl) rfl rfl (by kernel_rfl) (by kernel_rfl) fun a hF => ?_
              refine eQ 125 (v0 := .pointer (some ⟨bb1, 4, none⟩)) (v := .pointer (some ⟨bb1, 4, none⟩)) hF (by kernel_rfl) (fun _ => by kernel_rfl) rfl fun a hF => ?_
              refine eQL 126 5 4 (v := .slice A4 lm.length cm) hF (by kernel_rfl) rfl rfl (by kernel_rfl) (by kernel_rfl) fun a hF => ?_
              refine eQ 127 (v0 := .int .i64 (q : Int)) (v := .int .i64 (q : Int)) hF (by kernel_rfl) (fun _ => by kernel_rfl) rfl fun a hF => ?_
              refine eQ2 128 (v := .pointer (some (ea A4 (q * 3)))) hF (by kernel_rfl) (yld_ix (kd := .i64) (e := 80) (len := lm.length) (cap := cm) (i := (q : Int)) (size := 3) (A := A4) hF rfl (by kernel_rfl) (by kernel_rfl) (by kernel_rfl) (by kernel_rfl) (by kernel_rfl) (roK 4 rfl) (by omega) (by omega) (by rw [flatR_length hW4]; (try simp only [List.length_map, List.length_append, List.length_replicate, List.length_set, List.length_cons, List.length_nil, flat2_length, List.length_take]); omega)) fun a hF => ?_
              refine eQ2 129 (v := .agg #[.int .i64 (rc lm q 0), .int .i64 (rc lm q 1), .int .i64 (rc lm q 2)]) hF (by kernel_rfl) (yld_roM (A := A4) (j := q * 3) (us := [.int .i64 (rc lm q 0), .int .i64 (rc lm q 1), .int .i64 (rc lm q 2)]) hF rfl (by kernel_rfl) (by kernel_rfl) (roK 4 rfl) (by kernel_rfl) rfl (rc_sub (k := q) (f := 0) (m := 3) hW4 (by omega) (by decide) rfl)) fun a hF => ?_
              refine eQ2 130 (v := .int .i64 (mtE (rc lq q 1) (rc lq q 2) (rc lq q 3) (rc lq q 4) (rc lm q 0) (rc lm q 1) (rc lm q 2))) hF (by kernel_rfl) (yld_call (f := 29) (args := #[.agg #[.int .i64 (rc lq q 1), .int .i64 (rc lq q 2)], .agg #[.int .i64 (rc lq q 3), .int .i64 (rc lq q 4)], .agg #[.int .i64 (rc lm q 0), .int .i64 (rc lm q 1), .int .i64 (rc lm q 2)]]) hF (by kernel_rfl) (fun _ => by kernel_rfl) (fun w hM => refCheck_w (rc lq q 1) (rc lq q 2) (rc lq q 3) (rc lq q 4) (rc lm q 0) (rc lm q 1) (rc lm q 2) w)) fun a hF => ?_
              refine eQ 131 (v0 := .bool (!decide (mtE (rc lq q 1) (rc lq q 2) (rc lq q 3) (rc lq q 4) (rc lm q 0) (rc lm q 1) (rc lm q 2) = 0))) (v := .bool true) hF (by kernel_rfl) (fun _ => by kernel_rfl) (nF hz29) fun a hF => ?_
              refine eQ 132 (v0 := .bool true) (v := .bool true) hF (by kernel_rfl) (fun _ => by kernel_rfl) rfl fun a hF => ?_
              refine eQ 133 (v0 := .bool true) (v := .bool true) hF (by kernel_rfl) (fun _ => by kernel_rfl) rfl fun a hF => ?_
              refine qSkip hF (by kernel_rfl) rfl (by decide) fun a hF => ?_
              refine qSkip hF (by kernel_rfl) rfl (by decide) fun a hF => ?_
              refine qSkip hF (by kernel_rfl) rfl (by decide) fun a hF => ?_
              refine qSkip hF (by kernel_rfl) rfl (by decide) fun a hF => ?_
              refine qSkip hF (by kernel_rfl) rfl (by decide) fun a hF => ?_
              refine qSkip hF (by kernel_rfl) rfl (by decide) fun a hF => ?_
              refine qSkip hF (by kernel_rfl) rfl (by decide) fun a hF => ?_
              refine qSkip hF (by kernel_rfl) rfl (by decide) fun a hF => ?_
              refine qSkip hF (by kernel_rfl) rfl (by decide) fun a hF => ?_
              refine qSkip hF (by kernel_rfl) rfl (by decide) fun a hF => ?_
              refine eQ 144 (v0 := .bool true) (v := .bool true) hF (by kernel_rfl) (fun _ => by kernel_rfl) rfl fun a hF => ?_
              refine wpQuiet_nil ?_
              intro w hM
              refine hK40 _ _ ?_
              refine cT hF (by kernel_rfl) (by kernel_rfl) ?_
              refine wp_seq_k fun K49 hK49 => ?_
              refine wp_region_lit ?_
              refine sB 1 [(2, .bool false)] hF (by kernel_rfl) fun a hF => ?_
              refine wpList_nil ?_
              refine hK49 _ _ ?_
              refine wp_ret ?_
              refine hR0 _ _ ?_
              refine ret_of hF hM (.tmp rfl (.nil)) ?_
              exact ⟨ret_bool (fr_no (fun z => by have z1 := fl_Q z (k := q) (by omega); have z2 := z1.2; unfold okM at z2; have z3 := of_decide_eq_true z1.1.1; first | omega | exact z1.1.2 m (by omega) (by omega) | exact absurd z2.1 (by assumption))), hM.bel⟩
            ·skip
             refine rQ hM (by kernel_rfl) (by kernel_rfl) ?_
             refine eQ 116 (v0 := .pointer (some ⟨bb3, 0, none⟩)) (v := .pointer (some ⟨bb3, 0, none⟩)) hF (by kernel_rfl) (fun _ => by kernel_rfl) rfl fun a hF => ?_
             refine eQL 117 7 0 (v := .int .i64 (rc lq q 0)) hF (by kernel_rfl) rfl rfl (by kernel_rfl) (by kernel_rfl) fun a hF => ?_
             refine eQ2 118 (v := .bool false) hF (by kernel_rfl) (yld_call (f := 27) (args := #[.int .i64 (rc lq q 0), .int .i64 0, .int .i64 47]) hF (by kernel_rfl) (fun _ => by kernel_rfl) (fun w hM => rin_no (rc lq q 0) 0 47 w (.inr hz28))) fun a hF => ?_
             refine eQ 119 (v0 := .bool true) (v := .bool true) hF (by kernel_rfl) (fun _ => by kernel_rfl) rfl fun a hF => ?_
             refine eQ 120 (v0 := .bool true) (v := .bool true) hF (by kernel_rfl) (fun _ => by kernel_rfl) rfl fun a hF => ?_
             refine qSkip hF (by kernel_rfl) rfl (by decide) fun a hF => ?_
             refine qSkip hF (by kernel_rfl) rfl (by decide) fun a hF => ?_
             refine qSkip hF (by kernel_rfl) rfl (by decide) fun a hF => ?_
             refine qSkip hF (by kernel_rfl) rfl (by decide) fun a hF => ?_
             refine qSkip hF (by kernel_rfl) rfl (by decide) fun a hF => ?_
             refine qSkip hF (by kernel_rfl) rfl (by decide) fun a hF => ?_
             refine qSkip hF (by kernel_rfl) rfl (by decide) fun a hF => ?_
             refine qSkip hF (by kernel_rfl) rfl (by decide) fun a hF => ?_
             refine qSkip hF (by kernel_rfl) rfl (by decide) fun a hF => ?_
             refine qSkip hF (by kernel_rfl) rfl (by decide) fun a hF => ?_
             refine qSkip hF (by kernel_rfl) rfl (by decide) fun a hF => ?_
             refine eQ 132 (v0 := .bool true) (v := .bool true) hF (by kernel_rfl) (fun _ => by kernel_rfl) rfl fun a hF => ?_
             refine eQ 133 (v0 := .bool true) (v := .bool true) hF (by kernel_rfl) (fun _ => by kernel_rfl) rfl fun a hF => ?_
             refine qSkip hF (by kernel_rfl) rfl (by decide) fun a hF => ?_
             refine qSkip hF (by kernel_rfl) rfl (by decide) fun a hF => ?_
             refine qSkip hF (by kernel_rfl) rfl (by decide) fun a hF => ?_
             refine qSkip hF (by kernel_rfl) rfl (by decide) fun a hF => ?_
             refine qSkip hF (by kernel_rfl) rfl (by decide) fun a hF => ?_
             refine qSkip hF (by kernel_rfl) rfl (by decide) fun a hF => ?_
             refine qSkip hF (by kernel_rfl) rfl (by decide) fun a hF => ?_
             refine qSkip hF (by kernel_rfl) rfl (by decide) fun a hF => ?_
             refine qSkip hF (by kernel_rfl) rfl (by decide) fun a hF => ?_
             refine qSkip hF (by kernel_rfl) rfl (by decide) fun a hF => ?_
             refine eQ 144 (v0 := .bool true) (v := .bool true) hF (by kernel_rfl) (fun _ => by kernel_rfl) rfl fun a hF => ?_
             refine wpQuiet_nil ?_
             intro w hM
             refine hK40 _ _ ?_
             refine cT hF (by kernel_rfl) (by kernel_rfl) ?_
             refine wp_seq_k fun K50 hK50 => ?_
             refine wp_region_lit ?_
             refine sB 1 [(2, .bool false)] hF (by kernel_rfl) fun a hF => ?_
             refine wpList_nil ?_
             refine hK50 _ _ ?_
             refine wp_ret ?_
             refine hR0 _ _ ?_
             refine ret_of hF hM (.tmp rfl (.nil)) ?_
             exact ⟨ret_bool (fr_no (fun z => by have z1 := fl_Q z (k := q) (by omega); have z2 := z1.2; unfold okM at z2; have z3 := of_decide_eq_true z1.1.1; first | omega | exact z1.1.2 m (by omega) (by omega) | exact absurd z2.1 (by assumption))), hM.bel⟩
           ·skip
            refine rQ hM (by kernel_rfl) (by kernel_rfl) ?_
            refine eQ 116 (v0 := .pointer (some ⟨bb3, 0, none⟩)) (v := .pointer (some ⟨bb3, 0, none⟩)) hF (by kernel_rfl) (fun _ => by kernel_rfl) rfl fun a hF => ?_
            refine eQL 117 7 0 (v := .int .i64 (rc lq q 0)) hF (by kernel_rfl) rfl rfl (by kernel_rfl) (by kernel_rfl) fun a hF => ?_
            refine eQ2 118 (v := .bool false) hF (by kernel_rfl) (yld_call (f := 27) (args := #[.int .i64 (rc lq q 0), .int .i64 0, .int .i64 47]) hF (by kernel_rfl) (fun _ => by kernel_rfl) (fun w hM => rin_no (rc lq q 0) 0 47 w (.inl hz27))) fun a hF => ?_
            refine eQ 119 (v0 := .bool true) (v := .bool true) hF (by kernel_rfl) (fun _ => by kernel_rfl) rfl fun a hF => ?_
            refine eQ 120 (v0 := .bool true) (v := .bool true) hF (by kernel_rfl) (fun _ => by kernel_rfl) rfl fun a hF => ?_
            refine qSkip hF (by kernel_rfl) rfl (by decide) fun a hF => ?_
            refine qSkip hF (by kernel_rfl) rfl (by decide) fun a hF => ?_
            refine qSkip hF (by kernel_rfl) rfl (by decide) fun a hF => ?_
            refine qSkip hF (by kernel_rfl) rfl (by decide) fun a hF => ?_
            refine qSkip hF (by kernel_rfl) rfl (by decide) fun a hF => ?_
            refine qSkip hF (by kernel_rfl) rfl (by decide) fun a hF => ?_
            refine qSkip hF (by kernel_rfl) rfl (by decide) fun a hF => ?_
            refine qSkip hF (by kernel_rfl) rfl (by decide) fun a hF => ?_
            refine qSkip hF (by kernel_rfl) rfl (by decide) fun a hF => ?_
            refine qSkip hF (by kernel_rfl) rfl (by decide) fun a hF => ?_
            refine qSkip hF (by kernel_rfl) rfl (by decide) fun a hF => ?_
            refine eQ 132 (v0 := .bool true) (v := .bool true) hF (by kernel_rfl) (fun _ => by kernel_rfl) rfl fun a hF => ?_
            refine eQ 133 (v0 := .bool true) (v := .bool true) hF (by kernel_rfl) (fun _ => by kernel_rfl) rfl fun a hF => ?_
            refine qSkip hF (by kernel_rfl) rfl (by decide) fun a hF => ?_
            refine qSkip hF (by kernel_rfl) rfl (by decide) fun a hF => ?_
            refine qSkip hF (by kernel_rfl) rfl (by decide) fun a hF => ?_
            refine qSkip hF (by kernel_rfl) rfl (by decide) fun a hF => ?_
            refine qSkip hF (by kernel_rfl) rfl (by decide) fun a hF => ?_
            refine qSkip hF (by kernel_rfl) rfl (by decide) fun a hF => ?_
            refine qSkip hF (by kernel_rfl) rfl (by decide) fun a hF => ?_
            refine qSkip hF (by kernel_rfl) rfl (by decide) fun a hF => ?_
            refine qSkip hF (by kernel_rfl) rfl (by decide) fun a hF => ?_
            refine qSkip hF (by kernel_rfl) rfl (by decide) fun a hF => ?_
            refine eQ 144 (v0 := .bool true) (v := .bool true) hF (by kernel_rfl) (fun _ => by kernel_rfl) rfl fun a hF => ?_
            refine wpQuiet_nil ?_
            intro w hM
            refine hK40 _ _ ?_
            refine cT hF (by kernel_rfl) (by kernel_rfl) ?_
            refine wp_seq_k fun K51 hK51 => ?_
            refine wp_region_lit ?_
            refine sB 1 [(2, .bool false)] hF (by kernel_rfl) fun a hF => ?_
            refine wpList_nil ?_
            refine hK51 _ _ ?_
            refine wp_ret ?_
            refine hR0 _ _ ?_
            refine ret_of hF hM (.tmp rfl (.nil)) ?_
            exact ⟨ret_bool (fr_no (fun z => by have z1 := fl_Q z (k := q) (by omega); have z2 := z1.2; unfold okM at z2; have z3 := of_decide_eq_true z1.1.1; first | omega | exact z1.1.2 m (by omega) (by omega) | exact absurd z2.1 (by assumption))), hM.bel⟩
          ·skip
           replace hF := hF.c hF (i := 108) (v := .bool false) rfl (bF hz26)
           refine cF hF (by kernel_rfl) (by kernel_rfl) ?_
           refine wp_exit ?_
           refine hK32 _ _ ?_
           refine wp_seq_k fun K52 hK52 => ?_
           refine wp_region_lit ?_
           refine sB 1 [(2, .bool true)] hF (by kernel_rfl) fun a hF => ?_
           refine wpList_nil ?_
           refine hK52 _ _ ?_
           refine wp_ret ?_
           refine hR0 _ _ ?_
           refine ret_of hF hM (.tmp rfl (.nil)) ?_
           exact ⟨ret_bool (fr_yes ⟨(li_yes (by omega) (by omega) (fun j hj => (‹∀ j, j < k → okA la j ∧ okL la ls j› j (by omega)).1) (fun j hj => (‹∀ j, j < q → okP lq j ∧ okM lq lm now j› j (by omega)).1)).symm, by omega, by omega, fun j hj => (‹∀ j, j < k → okA la j ∧ okL la ls j› j (by omega)).2, fun j hj => (‹∀ j, j < q → okP lq j ∧ okM lq lm now j› j (by omega)).2⟩), hM.bel⟩
      ·skip
       refine wp_region_lit ?_
       refine sB 1 [(9, .pointer (some ⟨bb1, 0, none⟩))] hF (by kernel_rfl) fun a hF => ?_
       refine wl (eL 10 5 0 (v := .slice A la.length ca) hF hM (by kernel_rfl) rfl rfl (by kernel_rfl) (by kernel_rfl) fun a w hF hM => ?_)
       refine sB 1 [(11, .int .i64 (la.length : Int))] hF (by kernel_rfl) fun a hF => ?_
       refine wl (eP 12 (v0 := .bool (decide (64 < (la.length : Int)))) (v := .bool false) hF (by kernel_rfl) (fun _ => by kernel_rfl) (bF hz1) fun a hF => ?_)
       refine sB 2 [(13, .bool false), (14, .pointer (some ⟨bb1, 1, none⟩))] hF (by kernel_rfl) fun a hF => ?_
       refine wl (eL 15 5 1 (v := .slice A2 lq.length cq_) hF hM (by kernel_rfl) rfl rfl (by kernel_rfl) (by kernel_rfl) fun a w hF hM => ?_)
       refine sB 1 [(16, .int .i64 (lq.length : Int))] hF (by kernel_rfl) fun a hF => ?_
       refine wl (eP 17 (v0 := .bool (decide (64 < (lq.length : Int)))) (v := .bool false) hF (by kernel_rfl) (fun _ => by kernel_rfl) (bF hz2) fun a hF => ?_)
       refine sB 3 [(18, .bool false), (19, .bool false), (20, .pointer (some ⟨bb1, 3, none⟩))] hF (by kernel_rfl) fun a hF => ?_
       refine wl (eL 21 5 3 (v := .slice A3 ls.length cs) hF hM (by kernel_rfl) rfl rfl (by kernel_rfl) (by kernel_rfl) fun a w hF hM => ?_)
       refine sB 2 [(22, .int .i64 (ls.length : Int)), (23, .pointer (some ⟨bb1, 0, none⟩))] hF (by kernel_rfl) fun a hF => ?_
       refine wl (eL 24 5 0 (v := .slice A la.length ca) hF hM (by kernel_rfl) rfl rfl (by kernel_rfl) (by kernel_rfl) fun a w hF hM => ?_)
       refine sB 1 [(25, .int .i64 (la.length : Int))] hF (by kernel_rfl) fun a hF => ?_
       refine wl (eP 26 (v0 := .bool (!decide ((ls.length : Int) = (la.length : Int)))) (v := .bool false) hF (by kernel_rfl) (fun _ => by kernel_rfl) (nT hz3) fun a hF => ?_)
       refine sB 3 [(27, .bool false), (28, .bool false), (29, .pointer (some ⟨bb1, 4, none⟩))] hF (by kernel_rfl) fun a hF => ?_
       refine wl (eL 30 5 4 (v := .slice A4 lm.length cm) hF hM (by kernel_rfl) rfl rfl (by kernel_rfl) (by kernel_rfl) fun a w hF hM => ?_)
       refine sB 2 [(31, .int .i64 (lm.length : Int)), (32, .pointer (some ⟨bb1, 1, none⟩))] hF (by kernel_rfl) fun a hF => ?_
       refine wl (eL 33 5 1 (v := .slice A2 lq.length cq_) hF hM (by kernel_rfl) rfl rfl (by kernel_rfl) (by kernel_rfl) fun a w hF hM => ?_)
       refine sB 1 [(34, .int .i64 (lq.length : Int))] hF (by kernel_rfl) fun a hF => ?_
       refine wl (eP 35 (v0 := .bool (!decide ((lm.length : Int) = (lq.length : Int)))) (v := .bool false) hF (by kernel_rfl) (fun _ => by kernel_rfl) (nT hz4) fun a hF => ?_)
       refine sB 3 [(36, .bool false), (37, .bool false), (38, .pointer (some ⟨bb1, 2, none⟩))] hF (by kernel_rfl) fun a hF => ?_
       refine wl (eL 39 5 2 (v := .int .i64 now) hF hM (by kernel_rfl) rfl rfl (by kernel_rfl) (by kernel_rfl) fun a w hF hM => ?_)
       refine wl (eM 40 (v := .bool false) hF hM (by kernel_rfl) (yld_call (f := 27) (args := #[.int .i64 now, .int .i64 (-1000), .int .i64 549755813888]) hF (by kernel_rfl) (fun _ => by kernel_rfl) (fun w hM => rin_no now (-1000) 549755813888 w (.inr hz6))) fun a w hF hM => ?_)
       refine sB 2 [(41, .bool true), (42, .bool true)] hF (by kernel_rfl) fun a hF => ?_
       refine wpList_nil ?_
       refine hK3 _ _ ?_
       refine cT hF (by kernel_rfl) (by kernel_rfl) ?_
       refine wp_seq_k fun K53 hK53 => ?_
       refine wp_region_lit ?_
       refine sB 1 [(2, .bool false)] hF (by kernel_rfl) fun a hF => ?_
       refine wpList_nil ?_
       refine hK53 _ _ ?_
       refine wp_ret ?_
       refine hR0 _ _ ?_
       refine ret_of hF hM (.tmp rfl (.nil)) ?_
       exact ⟨ret_bool (fr_no (fun z => by have z1 := fl_len z; omega)), hM.bel⟩
     ·skip
      refine wp_region_lit ?_
      refine sB 1 [(9, .pointer (some ⟨bb1, 0, none⟩))] hF (by kernel_rfl) fun a hF => ?_
      refine wl (eL 10 5 0 (v := .slice A la.length ca) hF hM (by kernel_rfl) rfl rfl (by kernel_rfl) (by kernel_rfl) fun a w hF hM => ?_)
      refine sB 1 [(11, .int .i64 (la.length : Int))] hF (by kernel_rfl) fun a hF => ?_
      refine wl (eP 12 (v0 := .bool (decide (64 < (la.length : Int)))) (v := .bool false) hF (by kernel_rfl) (fun _ => by kernel_rfl) (bF hz1) fun a hF => ?_)
      refine sB 2 [(13, .bool false), (14, .pointer (some ⟨bb1, 1, none⟩))] hF (by kernel_rfl) fun a hF => ?_
      refine wl (eL 15 5 1 (v := .slice A2 lq.length cq_) hF hM (by kernel_rfl) rfl rfl (by kernel_rfl) (by kernel_rfl) fun a w hF hM => ?_)
      refine sB 1 [(16, .int .i64 (lq.length : Int))] hF (by kernel_rfl) fun a hF => ?_
      refine wl (eP 17 (v0 := .bool (decide (64 < (lq.length : Int)))) (v := .bool false) hF (by kernel_rfl) (fun _ => by kernel_rfl) (bF hz2) fun a hF => ?_)
      refine sB 3 [(18, .bool false), (19, .bool false), (20, .pointer (some ⟨bb1, 3, none⟩))] hF (by kernel_rfl) fun a hF => ?_
      refine wl (eL 21 5 3 (v := .slice A3 ls.length cs) hF hM (by kernel_rfl) rfl rfl (by kernel_rfl) (by kernel_rfl) fun a w hF hM => ?_)
      refine sB 2 [(22, .int .i64 (ls.length : Int)), (23, .pointer (some ⟨bb1, 0, none⟩))] hF (by kernel_rfl) fun a hF => ?_
      refine wl (eL 24 5 0 (v := .slice A la.length ca) hF hM (by kernel_rfl) rfl rfl (by kernel_rfl) (by kernel_rfl) fun a w hF hM => ?_)
      refine sB 1 [(25, .int .i64 (la.length : Int))] hF (by kernel_rfl) fun a hF => ?_
      refine wl (eP 26 (v0 := .bool (!decide ((ls.length : Int) = (la.length : Int)))) (v := .bool false) hF (by kernel_rfl) (fun _ => by kernel_rfl) (nT hz3) fun a hF => ?_)
      refine sB 3 [(27, .bool false), (28, .bool false), (29, .pointer (some ⟨bb1, 4, none⟩))] hF (by kernel_rfl) fun a hF => ?_
      refine wl (eL 30 5 4 (v := .slice A4 lm.length cm) hF hM (by kernel_rfl) rfl rfl (by kernel_rfl) (by kernel_rfl) fun a w hF hM => ?_)
      refine sB 2 [(31, .int .i64 (lm.length : Int)), (32, .pointer (some ⟨bb1, 1, none⟩))] hF (by kernel_rfl) fun a hF => ?_
      refine wl (eL 33 5 1 (v := .slice A2 lq.length cq_) hF hM (by kernel_rfl) rfl rfl (by kernel_rfl) (by kernel_rfl) fun a w hF hM => ?_)
      refine sB 1 [(34, .int .i64 (lq.length : Int))] hF (by kernel_rfl) fun a hF => ?_
      refine wl (eP 35 (v0 := .bool (!decide ((lm.length : Int) = (lq.length : Int)))) (v := .bool false) hF (by kernel_rfl) (fun _ => by kernel_rfl) (nT hz4) fun a hF => ?_)
      refine sB 3 [(36, .bool false), (37, .bool false), (38, .pointer (some ⟨bb1, 2, none⟩))] hF (by kernel_rfl) fun a hF => ?_
      refine wl (eL 39 5 2 (v := .int .i64 now) hF hM (by kernel_rfl) rfl rfl (by kernel_rfl) (by kernel_rfl) fun a w hF hM => ?_)
      refine wl (eM 40 (v := .bool false) hF hM (by kernel_rfl) (yld_call (f := 27) (args := #[.int .i64 now, .int .i64 (-1000), .int .i64 549755813888]) hF (by kernel_rfl) (fun _ => by kernel_rfl) (fun w hM => rin_no now (-1000) 549755813888 w (.inl hz5))) fun a w hF hM => ?_)
      refine sB 2 [(41, .bool true), (42, .bool true)] hF (by kernel_rfl) fun a hF => ?_
      refine wpList_nil ?_
      refine hK3 _ _ ?_
      refine cT hF (by kernel_rfl) (by kernel_rfl) ?_
      refine wp_seq_k fun K54 hK54 => ?_
      refine wp_region_lit ?_
      refine sB 1 [(2, .bool false)] hF (by kernel_rfl) fun a hF => ?_
      refine wpList_nil ?_
      refine hK54 _ _ ?_
      refine wp_ret ?_
      refine hR0 _ _ ?_
      refine ret_of hF hM (.tmp rfl (.nil)) ?_
      exact ⟨ret_bool (fr_no (fun z => by have z1 := fl_len z; omega)), hM.bel⟩
    ·skip
     refine wp_region_lit ?_
     refine sB 1 [(9, .pointer (some ⟨bb1, 0, none⟩))] hF (by kernel_rfl) fun a hF => ?_
     refine wl (eL 10 5 0 (v := .slice A la.length ca) hF hM (by kernel_rfl) rfl rfl (by kernel_rfl) (by kernel_rfl) fun a w hF hM => ?_)
     refine sB 1 [(11, .int .i64 (la.length : Int))] hF (by kernel_rfl) fun a hF => ?_
     refine wl (eP 12 (v0 := .bool (decide (64 < (la.length : Int)))) (v := .bool false) hF (by kernel_rfl) (fun _ => by kernel_rfl) (bF hz1) fun a hF => ?_)
     refine sB 2 [(13, .bool false), (14, .pointer (some ⟨bb1, 1, none⟩))] hF (by kernel_rfl) fun a hF => ?_
     refine wl (eL 15 5 1 (v := .slice A2 lq.length cq_) hF hM (by kernel_rfl) rfl rfl (by kernel_rfl) (by kernel_rfl) fun a w hF hM => ?_)
     refine sB 1 [(16, .int .i64 (lq.length : Int))] hF (by kernel_rfl) fun a hF => ?_
     refine wl (eP 17 (v0 := .bool (decide (64 < (lq.length : Int)))) (v := .bool false) hF (by kernel_rfl) (fun _ => by kernel_rfl) (bF hz2) fun a hF => ?_)
     refine sB 3 [(18, .bool false), (19, .bool false), (20, .pointer (some ⟨bb1, 3, none⟩))] hF (by kernel_rfl) fun a hF => ?_
     refine wl (eL 21 5 3 (v := .slice A3 ls.length cs) hF hM (by kernel_rfl) rfl rfl (by kernel_rfl) (by kernel_rfl) fun a w hF hM => ?_)
     refine sB 2 [(22, .int .i64 (ls.length : Int)), (23, .pointer (some ⟨bb1, 0, none⟩))] hF (by kernel_rfl) fun a hF => ?_
     refine wl (eL 24 5 0 (v := .slice A la.length ca) hF hM (by kernel_rfl) rfl rfl (by kernel_rfl) (by kernel_rfl) fun a w hF hM => ?_)
     refine sB 1 [(25, .int .i64 (la.length : Int))] hF (by kernel_rfl) fun a hF => ?_
     refine wl (eP 26 (v0 := .bool (!decide ((ls.length : Int) = (la.length : Int)))) (v := .bool false) hF (by kernel_rfl) (fun _ => by kernel_rfl) (nT hz3) fun a hF => ?_)
     refine sB 3 [(27, .bool false), (28, .bool false), (29, .pointer (some ⟨bb1, 4, none⟩))] hF (by kernel_rfl) fun a hF => ?_
     refine wl (eL 30 5 4 (v := .slice A4 lm.length cm) hF hM (by kernel_rfl) rfl rfl (by kernel_rfl) (by kernel_rfl) fun a w hF hM => ?_)
     refine sB 2 [(31, .int .i64 (lm.length : Int)), (32, .pointer (some ⟨bb1, 1, none⟩))] hF (by kernel_rfl) fun a hF => ?_
     refine wl (eL 33 5 1 (v := .slice A2 lq.length cq_) hF hM (by kernel_rfl) rfl rfl (by kernel_rfl) (by kernel_rfl) fun a w hF hM => ?_)
     refine sB 1 [(34, .int .i64 (lq.length : Int))] hF (by kernel_rfl) fun a hF => ?_
     refine wl (eP 35 (v0 := .bool (!decide ((lm.length : Int) = (lq.length : Int)))) (v := .bool true) hF (by kernel_rfl) (fun _ => by kernel_rfl) (nF hz4) fun a hF => ?_)
     refine sB 7 [(36, .bool true), (37, .bool true), (38, undef), (39, undef), (40, undef), (41, undef), (42, .bool true)] hF (by kernel_rfl) fun a hF => ?_
     refine wpList_nil ?_
     refine hK3 _ _ ?_
     refine cT hF (by kernel_rfl) (by kernel_rfl) ?_
     refine wp_seq_k fun K55 hK55 => ?_
     refine wp_region_lit ?_
     refine sB 1 [(2, .bool false)] hF (by kernel_rfl) fun a hF => ?_
     refine wpList_nil ?_
     refine hK55 _ _ ?_
     refine wp_ret ?_
     refine hR0 _ _ ?_
     refine ret_of hF hM (.tmp rfl (.nil)) ?_
     exact ⟨ret_bool (fr_no (fun z => by have z1 := fl_len z; omega)), hM.bel⟩
   ·skip
    refine wp_region_lit ?_
    refine sB 1 [(9, .pointer (some ⟨bb1, 0, none⟩))] hF (by kernel_rfl) fun a hF => ?_
    refine wl (eL 10 5 0 (v := .slice A la.length ca) hF hM (by kernel_rfl) rfl rfl (by kernel_rfl) (by kernel_rfl) fun a w hF hM => ?_)
    refine sB 1 [(11, .int .i64 (la.length : Int))] hF (by kernel_rfl) fun a hF => ?_
    refine wl (eP 12 (v0 := .bool (decide (64 < (la.length : Int)))) (v := .bool false) hF (by kernel_rfl) (fun _ => by kernel_rfl) (bF hz1) fun a hF => ?_)
    refine sB 2 [(13, .bool false), (14, .pointer (some ⟨bb1, 1, none⟩))] hF (by kernel_rfl) fun a hF => ?_
    refine wl (eL 15 5 1 (v := .slice A2 lq.length cq_) hF hM (by kernel_rfl) rfl rfl (by kernel_rfl) (by kernel_rfl) fun a w hF hM => ?_)
    refine sB 1 [(16, .int .i64 (lq.length : Int))] hF (by kernel_rfl) fun a hF => ?_
    refine wl (eP 17 (v0 := .bool (decide (64 < (lq.length : Int)))) (v := .bool false) hF (by kernel_rfl) (fun _ => by kernel_rfl) (bF hz2) fun a hF => ?_)
    refine sB 3 [(18, .bool false), (19, .bool false), (20, .pointer (some ⟨bb1, 3, none⟩))] hF (by kernel_rfl) fun a hF => ?_
    refine wl (eL 21 5 3 (v := .slice A3 ls.length cs) hF hM (by kernel_rfl) rfl rfl (by kernel_rfl) (by kernel_rfl) fun a w hF hM => ?_)
    refine sB 2 [(22, .int .i64 (ls.length : Int)), (23, .pointer (some ⟨bb1, 0, none⟩))] hF (by kernel_rfl) fun a hF => ?_
    refine wl (eL 24 5 0 (v := .slice A la.length ca) hF hM (by kernel_rfl) rfl rfl (by kernel_rfl) (by kernel_rfl) fun a w hF hM => ?_)
    refine sB 1 [(25, .int .i64 (la.length : Int))] hF (by kernel_rfl) fun a hF => ?_
    refine wl (eP 26 (v0 := .bool (!decide ((ls.length : Int) = (la.length : Int)))) (v := .bool true) hF (by kernel_rfl) (fun _ => by kernel_rfl) (nF hz3) fun a hF => ?_)
    refine sB 16 [(27, .bool true), (28, .bool true), (29, undef), (30, undef), (31, undef), (32, undef), (33, undef), (34, undef), (35, undef), (36, .bool true), (37, .bool true), (38, undef), (39, undef), (40, undef), (41, undef), (42, .bool true)] hF (by kernel_rfl) fun a hF => ?_
    refine wpList_nil ?_
    refine hK3 _ _ ?_
    refine cT hF (by kernel_rfl) (by kernel_rfl) ?_
    refine wp_seq_k fun K56 hK56 => ?_
    refine wp_region_lit ?_
    refine sB 1 [(2, .bool false)] hF (by kernel_rfl) fun a hF => ?_
    refine wpList_nil ?_
    refine hK56 _ _ ?_
    refine wp_ret ?_
    refine hR0 _ _ ?_
    refine ret_of hF hM (.tmp rfl (.nil)) ?_
    exact ⟨ret_bool (fr_no (fun z => by have z1 := fl_len z; omega)), hM.bel⟩

theorem rRight33_x (A : Option Addr) (la : List (List Int)) (ca : Nat) (A2 : Option Addr) (lq : List (List Int)) (cq_ : Nat) (now : Int) (A3 : Option Addr) (ls : List Int) (cs : Nat) (A4 : Option Addr) (lm : List (List Int)) (cm : Nat)  (w0 : World) (hA : Ro w0 A (flatR la)) (hW : WR 7 la) (hA2 : Ro w0 A2 (flatR lq)) (hW2 : WR 5 lq) (hA3 : Ro w0 A3 (ls.map (Value.int .i64))) (hA4 : Ro w0 A4 (flatR lm)) (hW4 : WR 3 lm)  {n1 n2 n3 n4 : Nat} (q1 : la.length = n1) (q2 : lq.length = n2) (q3 : ls.length = n3) (q4 : lm.length = n4) : Calls Try.prog 11 #[.agg #[.slice A n1 ca, .slice A2 n2 cq_, .int .i64 now, .slice A3 n3 cs, .slice A4 n4 cm]] w0 (Ret w0 (.bool (frB la lq now ls lm))) := by
  subst q1 q2 q3 q4
  exact rRight33_w A la ca A2 lq cq_ now A3 ls cs A4 lm cm  w0 hA hW hA2 hW2 hA3 hA4 hW4 
end Go.Proofs.Ytogeficooemngaa
