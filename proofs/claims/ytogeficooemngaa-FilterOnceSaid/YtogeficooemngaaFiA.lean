/-
  Registrations.
-/
import Derived.Test.YtogeficooemngaaMeterA
import Derived.Test.YtogeficooemngaaRec
namespace Go.Proofs.Ytogeficooemngaa
open Go.RowKit
set_option linter.unusedVariables false
set_option linter.unusedSimpArgs false

/-- A registration is valid. -/
def vaP (ap ast ac asz ad ae al : Int) : Prop := 0 ≤ ap ∧ ap ≤ 47 ∧ 1 ≤ ast ∧ ast ≤ 4095 ∧ 84 ≤ asz ∧ asz ≤ 1542 ∧ ((ac = 7 ∧ 1 ≤ ad ∧ ad ≤ 2400000 ∧ -1099511627776 ≤ ae ∧ ae ≤ 1099511627776 ∧ -1099511627776 ≤ al ∧ al ≤ 1099511627776 ∧ ae ≤ al ∧ al - ae < ad) ∨ (ac = 6 ∧ ad = 0 ∧ ae = 0 ∧ al = 0))
instance (ap ast ac asz ad ae al : Int) : Decidable (vaP ap ast ac asz ad ae al) := by unfold vaP; infer_instance
def vaB (ap ast ac asz ad ae al : Int) : Bool := decide (vaP ap ast ac asz ad ae al)
theorem va_yes {ap ast ac asz ad ae al : Int} (h : vaP ap ast ac asz ad ae al) : true = vaB ap ast ac asz ad ae al := (decide_eq_true h).symm
theorem va_no {ap ast ac asz ad ae al : Int} (h : ¬ vaP ap ast ac asz ad ae al) : false = vaB ap ast ac asz ad ae al := (decide_eq_false h).symm
theorem va_dec {p : Prop} [Decidable p] {ap ast ac asz ad ae al : Int} (h : p ↔ vaP ap ast ac asz ad ae al) : decide p = vaB ap ast ac asz ad ae al := decide_eq_decide.2 h
theorem fiw_yes (x lo hi : Int) (w0 : World) (h1 : lo ≤ x) (h2 : x ≤ hi) :
    Calls Try.prog 31 #[.int .i64 x, .int .i64 lo, .int .i64 hi] w0 (Ret w0 (.bool true)) := by
 refine enterK 15 Try.func31 rfl rfl rfl ?_
 intro a hF Q0 hR0 hN0
 have hM := Mem.start w0
 refine wp_seq_k fun K1 hK1 => ?_
 refine wp_region_lit ?_
 refine sB 1 [(6, .bool false)] hF (by kernel_rfl) fun a hF => ?_
 refine wpList_nil ?_
 refine hK1 _ _ ?_
 refine wp_seq_k fun K2 hK2 => ?_
 refine wp_region_lit ?_
 refine sB 2 [(7, .int .i64 x), (8, .int .i64 lo)] hF (by kernel_rfl) fun a hF => ?_
 refine wl (eP 9 (v0 := .bool (decide (lo ≤ x))) (v := .bool true) hF (by kernel_rfl) (fun _ => by kernel_rfl) (bT (by omega)) fun a hF => ?_)
 refine sB 3 [(10, .bool true), (11, .int .i64 x), (12, .int .i64 hi)] hF (by kernel_rfl) fun a hF => ?_
 refine wl (eP 13 (v0 := .bool (decide (x ≤ hi))) (v := .bool true) hF (by kernel_rfl) (fun _ => by kernel_rfl) (bT (by omega)) fun a hF => ?_)
 refine sB 2 [(14, .bool true), (6, .bool true)] hF (by kernel_rfl) fun a hF => ?_
 refine wpList_nil ?_
 refine hK2 _ _ ?_
 refine wp_ret ?_
 refine hR0 _ _ ?_
 refine ret_of hF hM (.tmp rfl (.nil)) ?_
 exact ⟨rfl, hM.bel⟩

theorem fiw_no (x lo hi : Int) (w0 : World) (hx : ¬ lo ≤ x ∨ ¬ x ≤ hi) :
    Calls Try.prog 31 #[.int .i64 x, .int .i64 lo, .int .i64 hi] w0 (Ret w0 (.bool false)) := by
 refine enterK 15 Try.func31 rfl rfl rfl ?_
 intro a hF Q0 hR0 hN0
 have hM := Mem.start w0
 refine wp_seq_k fun K1 hK1 => ?_
 refine wp_region_lit ?_
 refine sB 1 [(6, .bool false)] hF (by kernel_rfl) fun a hF => ?_
 refine wpList_nil ?_
 refine hK1 _ _ ?_
 refine wp_seq_k fun K2 hK2 => ?_
 by_cases hz1 : lo ≤ x
 ·skip
  refine wp_region_lit ?_
  refine sB 2 [(7, .int .i64 x), (8, .int .i64 lo)] hF (by kernel_rfl) fun a hF => ?_
  refine wl (eP 9 (v0 := .bool (decide (lo ≤ x))) (v := .bool true) hF (by kernel_rfl) (fun _ => by kernel_rfl) (bT hz1) fun a hF => ?_)
  refine sB 6 [(10, .bool true), (11, .int .i64 x), (12, .int .i64 hi), (13, .bool (decide (x ≤ hi))), (14, .bool (decide (x ≤ hi))), (6, .bool (decide (x ≤ hi)))] hF (by kernel_rfl) fun a hF => ?_
  refine wpList_nil ?_
  refine hK2 _ _ ?_
  refine wp_ret ?_
  refine hR0 _ _ ?_
  refine ret_of hF hM (.tmp rfl (.nil)) ?_
  exact ⟨ret_bool (decide_eq_false (by omega)), hM.bel⟩
 ·skip
  refine wp_region_lit ?_
  refine sB 2 [(7, .int .i64 x), (8, .int .i64 lo)] hF (by kernel_rfl) fun a hF => ?_
  refine wl (eP 9 (v0 := .bool (decide (lo ≤ x))) (v := .bool false) hF (by kernel_rfl) (fun _ => by kernel_rfl) (bF hz1) fun a hF => ?_)
  refine sB 6 [(10, .bool false), (11, undef), (12, undef), (13, undef), (14, .bool false), (6, .bool false)] hF (by kernel_rfl) fun a hF => ?_
  refine wpList_nil ?_
  refine hK2 _ _ ?_
  refine wp_ret ?_
  refine hR0 _ _ ?_
  refine ret_of hF hM (.tmp rfl (.nil)) ?_
  exact ⟨rfl, hM.bel⟩

theorem rin_yes (x lo hi : Int) (w0 : World) (h1 : lo ≤ x) (h2 : x ≤ hi) :
    Calls Try.prog 27 #[.int .i64 x, .int .i64 lo, .int .i64 hi] w0 (Ret w0 (.bool true)) := by
 refine enterK 15 Try.func27 rfl rfl rfl ?_
 intro a hF Q0 hR0 hN0
 have hM := Mem.start w0
 refine wp_seq_k fun K1 hK1 => ?_
 refine wp_region_lit ?_
 refine sB 1 [(6, .bool false)] hF (by kernel_rfl) fun a hF => ?_
 refine wpList_nil ?_
 refine hK1 _ _ ?_
 refine wp_seq_k fun K2 hK2 => ?_
 refine wp_region_lit ?_
 refine sB 2 [(7, .int .i64 x), (8, .int .i64 lo)] hF (by kernel_rfl) fun a hF => ?_
 refine wl (eP 9 (v0 := .bool (decide (lo ≤ x))) (v := .bool true) hF (by kernel_rfl) (fun _ => by kernel_rfl) (bT (by omega)) fun a hF => ?_)
 refine sB 3 [(10, .bool true), (11, .int .i64 x), (12, .int .i64 hi)] hF (by kernel_rfl) fun a hF => ?_
 refine wl (eP 13 (v0 := .bool (decide (x ≤ hi))) (v := .bool true) hF (by kernel_rfl) (fun _ => by kernel_rfl) (bT (by omega)) fun a hF => ?_)
 refine sB 2 [(14, .bool true), (6, .bool true)] hF (by kernel_rfl) fun a hF => ?_
 refine wpList_nil ?_
 refine hK2 _ _ ?_
 refine wp_ret ?_
 refine hR0 _ _ ?_
 refine ret_of hF hM (.tmp rfl (.nil)) ?_
 exact ⟨rfl, hM.bel⟩

theorem rin_no (x lo hi : Int) (w0 : World) (hx : ¬ lo ≤ x ∨ ¬ x ≤ hi) :
    Calls Try.prog 27 #[.int .i64 x, .int .i64 lo, .int .i64 hi] w0 (Ret w0 (.bool false)) := by
 refine enterK 15 Try.func27 rfl rfl rfl ?_
 intro a hF Q0 hR0 hN0
 have hM := Mem.start w0
 refine wp_seq_k fun K1 hK1 => ?_
 refine wp_region_lit ?_
 refine sB 1 [(6, .bool false)] hF (by kernel_rfl) fun a hF => ?_
 refine wpList_nil ?_
 refine hK1 _ _ ?_
 refine wp_seq_k fun K2 hK2 => ?_
 by_cases hz1 : lo ≤ x
 ·skip
  refine wp_region_lit ?_
  refine sB 2 [(7, .int .i64 x), (8, .int .i64 lo)] hF (by kernel_rfl) fun a hF => ?_
  refine wl (eP 9 (v0 := .bool (decide (lo ≤ x))) (v := .bool true) hF (by kernel_rfl) (fun _ => by kernel_rfl) (bT hz1) fun a hF => ?_)
  refine sB 6 [(10, .bool true), (11, .int .i64 x), (12, .int .i64 hi), (13, .bool (decide (x ≤ hi))), (14, .bool (decide (x ≤ hi))), (6, .bool (decide (x ≤ hi)))] hF (by kernel_rfl) fun a hF => ?_
  refine wpList_nil ?_
  refine hK2 _ _ ?_
  refine wp_ret ?_
  refine hR0 _ _ ?_
  refine ret_of hF hM (.tmp rfl (.nil)) ?_
  exact ⟨ret_bool (decide_eq_false (by omega)), hM.bel⟩
 ·skip
  refine wp_region_lit ?_
  refine sB 2 [(7, .int .i64 x), (8, .int .i64 lo)] hF (by kernel_rfl) fun a hF => ?_
  refine wl (eP 9 (v0 := .bool (decide (lo ≤ x))) (v := .bool false) hF (by kernel_rfl) (fun _ => by kernel_rfl) (bF hz1) fun a hF => ?_)
  refine sB 6 [(10, .bool false), (11, undef), (12, undef), (13, undef), (14, .bool false), (6, .bool false)] hF (by kernel_rfl) fun a hF => ?_
  refine wpList_nil ?_
  refine hK2 _ _ ?_
  refine wp_ret ?_
  refine hR0 _ _ ?_
  refine ret_of hF hM (.tmp rfl (.nil)) ?_
  exact ⟨rfl, hM.bel⟩

set_option maxRecDepth 100000 in
theorem validAccept_w (ap ast ac asz ad ae al : Int) (w0 : World) :
    Calls Try.prog 45 #[.agg #[.int .i64 ap, .int .i64 ast, .int .i64 ac, .int .i64 asz, .int .i64 ad, .int .i64 ae, .int .i64 al]] w0 (Ret w0 (.bool (vaB ap ast ac asz ad ae al))) := by
 refine enterK 60 Try.func45 rfl rfl rfl ?_
 intro a hF Q0 hR0 hN0
 have hM := Mem.start w0
 refine wp_seq_k fun K1 hK1 => ?_
 refine wp_region_lit ?_
 refine wl (eN 1 1 (t := 57) (fun b => .pointer (some ⟨b, 0, none⟩)) #[.int .i64 ap, .int .i64 ast, .int .i64 ac, .int .i64 asz, .int .i64 ad, .int .i64 ae, .int .i64 al] hF hM (by kernel_rfl) (fun _ => by kernel_rfl) fun bb1 a w hF hM => ?_)
 refine sB 1 [(2, .bool false)] hF (by kernel_rfl) fun a hF => ?_
 refine wpList_nil ?_
 refine hK1 _ _ ?_
 refine wp_seq_k fun K2 hK2 => ?_
 refine wp_seq_k fun K3 hK3 => ?_
 by_cases hz1 : 0 ≤ ap
 ·skip
  by_cases hz2 : ap ≤ 47
  ·skip
   by_cases hz3 : 1 ≤ ast
   ·skip
    by_cases hz4 : ast ≤ 4095
    ·skip
     by_cases hz5 : 84 ≤ asz
     ·skip
      by_cases hz6 : asz ≤ 1542
      ·skip
       refine wp_region_lit ?_
       refine sB 1 [(3, .pointer (some ⟨bb1, 0, none⟩))] hF (by kernel_rfl) fun a hF => ?_
       refine wl (eL 4 1 0 (v := .int .i64 ap) hF hM (by kernel_rfl) rfl rfl (by kernel_rfl) (by kernel_rfl) fun a w hF hM => ?_)
       refine wl (eM 5 (v := .bool true) hF hM (by kernel_rfl) (yld_call (f := 31) (args := #[.int .i64 ap, .int .i64 0, .int .i64 47]) hF (by kernel_rfl) (fun _ => by kernel_rfl) (fun w hM => fiw_yes ap 0 47 w hz1 hz2)) fun a w hF hM => ?_)
       refine sB 3 [(6, .bool false), (7, .bool false), (8, .pointer (some ⟨bb1, 1, none⟩))] hF (by kernel_rfl) fun a hF => ?_
       refine wl (eL 9 1 1 (v := .int .i64 ast) hF hM (by kernel_rfl) rfl rfl (by kernel_rfl) (by kernel_rfl) fun a w hF hM => ?_)
       refine wl (eM 10 (v := .bool true) hF hM (by kernel_rfl) (yld_call (f := 31) (args := #[.int .i64 ast, .int .i64 1, .int .i64 4095]) hF (by kernel_rfl) (fun _ => by kernel_rfl) (fun w hM => fiw_yes ast 1 4095 w hz3 hz4)) fun a w hF hM => ?_)
       refine sB 4 [(11, .bool false), (12, .bool false), (13, .bool false), (14, .pointer (some ⟨bb1, 3, none⟩))] hF (by kernel_rfl) fun a hF => ?_
       refine wl (eL 15 1 3 (v := .int .i64 asz) hF hM (by kernel_rfl) rfl rfl (by kernel_rfl) (by kernel_rfl) fun a w hF hM => ?_)
       refine wl (eM 16 (v := .bool true) hF hM (by kernel_rfl) (yld_call (f := 31) (args := #[.int .i64 asz, .int .i64 84, .int .i64 1542]) hF (by kernel_rfl) (fun _ => by kernel_rfl) (fun w hM => fiw_yes asz 84 1542 w hz5 hz6)) fun a w hF hM => ?_)
       refine sB 2 [(17, .bool false), (18, .bool false)] hF (by kernel_rfl) fun a hF => ?_
       refine wpList_nil ?_
       refine hK3 _ _ ?_
       refine cF hF (by kernel_rfl) (by kernel_rfl) ?_
       refine wp_skip ?_
       refine hK2 _ _ ?_
       refine wp_seq_k fun K4 hK4 => ?_
       refine wp_seq_k fun K5 hK5 => ?_
       refine wp_region_lit ?_
       refine sB 1 [(19, .pointer (some ⟨bb1, 2, none⟩))] hF (by kernel_rfl) fun a hF => ?_
       refine wl (eL 20 1 2 (v := .int .i64 ac) hF hM (by kernel_rfl) rfl rfl (by kernel_rfl) (by kernel_rfl) fun a w hF hM => ?_)
       refine wpList_nil ?_
       refine hK5 _ _ ?_
       refine wp_block ?_
       refine wp_seq_k fun K6 hK6 => ?_
       refine wp_region_lit ?_
       refine sB 2 [(22, .bool (decide (ac = 7))), (21, .bool (decide (ac = 7)))] hF (by kernel_rfl) fun a hF => ?_
       refine wpList_nil ?_
       refine hK6 _ _ ?_
       by_cases hz7 : ac = 7
       ·skip
        replace hF := hF.c hF (i := 21) (v := .bool true) rfl (bT hz7)
        replace hF := hF.c hF (i := 22) (v := .bool true) rfl (bT hz7)
        refine cT hF (by kernel_rfl) (by kernel_rfl) ?_
        refine wp_seq_k fun K7 hK7 => ?_
        by_cases hz8 : 1 ≤ ad
        ·skip
         by_cases hz9 : ad ≤ 2400000
         ·skip
          by_cases hz10 : -1099511627776 ≤ ae
          ·skip
           by_cases hz11 : ae ≤ 1099511627776
           ·skip
            by_cases hz12 : -1099511627776 ≤ al
            ·skip
             by_cases hz13 : al ≤ 1099511627776
             ·skip
              by_cases hz14 : 0 ≤ al - ae
              ·skip
               by_cases hz15 : al - ae ≤ ad - 1
               ·skip
                refine wp_region_lit ?_
                refine sB 1 [(23, .pointer (some ⟨bb1, 4, none⟩))] hF (by kernel_rfl) fun a hF => ?_
                refine wl (eL 24 1 4 (v := .int .i64 ad) hF hM (by kernel_rfl) rfl rfl (by kernel_rfl) (by kernel_rfl) fun a w hF hM => ?_)
                refine wl (eM 25 (v := .bool true) hF hM (by kernel_rfl) (yld_call (f := 31) (args := #[.int .i64 ad, .int .i64 1, .int .i64 2400000]) hF (by kernel_rfl) (fun _ => by kernel_rfl) (fun w hM => fiw_yes ad 1 2400000 w hz8 hz9)) fun a w hF hM => ?_)
                refine sB 2 [(26, .bool true), (27, .pointer (some ⟨bb1, 5, none⟩))] hF (by kernel_rfl) fun a hF => ?_
                refine wl (eL 28 1 5 (v := .int .i64 ae) hF hM (by kernel_rfl) rfl rfl (by kernel_rfl) (by kernel_rfl) fun a w hF hM => ?_)
                refine wl (eM 29 (v := .bool true) hF hM (by kernel_rfl) (yld_call (f := 31) (args := #[.int .i64 ae, .int .i64 (-1099511627776), .int .i64 1099511627776]) hF (by kernel_rfl) (fun _ => by kernel_rfl) (fun w hM => fiw_yes ae (-1099511627776) 1099511627776 w hz10 hz11)) fun a w hF hM => ?_)
                refine sB 3 [(30, .bool true), (31, .bool true), (32, .pointer (some ⟨bb1, 6, none⟩))] hF (by kernel_rfl) fun a hF => ?_
                refine wl (eL 33 1 6 (v := .int .i64 al) hF hM (by kernel_rfl) rfl rfl (by kernel_rfl) (by kernel_rfl) fun a w hF hM => ?_)
                refine wl (eM 34 (v := .bool true) hF hM (by kernel_rfl) (yld_call (f := 31) (args := #[.int .i64 al, .int .i64 (-1099511627776), .int .i64 1099511627776]) hF (by kernel_rfl) (fun _ => by kernel_rfl) (fun w hM => fiw_yes al (-1099511627776) 1099511627776 w hz12 hz13)) fun a w hF hM => ?_)
                refine sB 3 [(35, .bool true), (36, .bool true), (37, .pointer (some ⟨bb1, 6, none⟩))] hF (by kernel_rfl) fun a hF => ?_
                refine wl (eL 38 1 6 (v := .int .i64 al) hF hM (by kernel_rfl) rfl rfl (by kernel_rfl) (by kernel_rfl) fun a w hF hM => ?_)
                refine sB 1 [(39, .pointer (some ⟨bb1, 5, none⟩))] hF (by kernel_rfl) fun a hF => ?_
                refine wl (eL 40 1 5 (v := .int .i64 ae) hF hM (by kernel_rfl) rfl rfl (by kernel_rfl) (by kernel_rfl) fun a w hF hM => ?_)
                refine wl (eP 41 (v0 := .int .i64 (IntKind.i64.wrap (al - ae))) (v := .int .i64 (al - ae)) hF (by kernel_rfl) (fun _ => by kernel_rfl) (wi (by omega)) fun a hF => ?_)
                refine sB 1 [(42, .pointer (some ⟨bb1, 4, none⟩))] hF (by kernel_rfl) fun a hF => ?_
                refine wl (eL 43 1 4 (v := .int .i64 ad) hF hM (by kernel_rfl) rfl rfl (by kernel_rfl) (by kernel_rfl) fun a w hF hM => ?_)
                refine wl (eP 44 (v0 := .int .i64 (IntKind.i64.wrap (ad - 1))) (v := .int .i64 (ad - 1)) hF (by kernel_rfl) (fun _ => by kernel_rfl) (wi (by omega)) fun a hF => ?_)
                refine wl (eM 45 (v := .bool true) hF hM (by kernel_rfl) (yld_call (f := 31) (args := #[.int .i64 (al - ae), .int .i64 0, .int .i64 (ad - 1)]) hF (by kernel_rfl) (fun _ => by kernel_rfl) (fun w hM => fiw_yes (al - ae) 0 (ad - 1) w hz14 hz15)) fun a w hF hM => ?_)
                refine sB 2 [(46, .bool true), (2, .bool true)] hF (by kernel_rfl) fun a hF => ?_
                refine wpList_nil ?_
                refine hK7 _ _ ?_
                refine wp_ret ?_
                refine hR0 _ _ ?_
                refine ret_of hF hM (.tmp rfl (.nil)) ?_
                exact ⟨ret_bool (va_yes (by unfold vaP; omega)), hM.bel⟩
               ·skip
                refine wp_region_lit ?_
                refine sB 1 [(23, .pointer (some ⟨bb1, 4, none⟩))] hF (by kernel_rfl) fun a hF => ?_
                refine wl (eL 24 1 4 (v := .int .i64 ad) hF hM (by kernel_rfl) rfl rfl (by kernel_rfl) (by kernel_rfl) fun a w hF hM => ?_)
                refine wl (eM 25 (v := .bool true) hF hM (by kernel_rfl) (yld_call (f := 31) (args := #[.int .i64 ad, .int .i64 1, .int .i64 2400000]) hF (by kernel_rfl) (fun _ => by kernel_rfl) (fun w hM => fiw_yes ad 1 2400000 w hz8 hz9)) fun a w hF hM => ?_)
                refine sB 2 [(26, .bool true), (27, .pointer (some ⟨bb1, 5, none⟩))] hF (by kernel_rfl) fun a hF => ?_
                refine wl (eL 28 1 5 (v := .int .i64 ae) hF hM (by kernel_rfl) rfl rfl (by kernel_rfl) (by kernel_rfl) fun a w hF hM => ?_)
                refine wl (eM 29 (v := .bool true) hF hM (by kernel_rfl) (yld_call (f := 31) (args := #[.int .i64 ae, .int .i64 (-1099511627776), .int .i64 1099511627776]) hF (by kernel_rfl) (fun _ => by kernel_rfl) (fun w hM => fiw_yes ae (-1099511627776) 1099511627776 w hz10 hz11)) fun a w hF hM => ?_)
                refine sB 3 [(30, .bool true), (31, .bool true), (32, .pointer (some ⟨bb1, 6, none⟩))] hF (by kernel_rfl) fun a hF => ?_
                refine wl (eL 33 1 6 (v := .int .i64 al) hF hM (by kernel_rfl) rfl rfl (by kernel_rfl) (by kernel_rfl) fun a w hF hM => ?_)
                refine wl (eM 34 (v := .bool true) hF hM (by kernel_rfl) (yld_call (f := 31) (args := #[.int .i64 al, .int .i64 (-1099511627776), .int .i64 1099511627776]) hF (by kernel_rfl) (fun _ => by kernel_rfl) (fun w hM => fiw_yes al (-1099511627776) 1099511627776 w hz12 hz13)) fun a w hF hM => ?_)
                refine sB 3 [(35, .bool true), (36, .bool true), (37, .pointer (some ⟨bb1, 6, none⟩))] hF (by kernel_rfl) fun a hF => ?_
                refine wl (eL 38 1 6 (v := .int .i64 al) hF hM (by kernel_rfl) rfl rfl (by kernel_rfl) (by kernel_rfl) fun a w hF hM => ?_)
                refine sB 1 [(39, .pointer (some ⟨bb1, 5, none⟩))] hF (by kernel_rfl) fun a hF => ?_
                refine wl (eL 40 1 5 (v := .int .i64 ae) hF hM (by kernel_rfl) rfl rfl (by kernel_rfl) (by kernel_rfl) fun a w hF hM => ?_)
                refine wl (eP 41 (v0 := .int .i64 (IntKind.i64.wrap (al - ae))) (v := .int .i64 (al - ae)) hF (by kernel_rfl) (fun _ => by kernel_rfl) (wi (by omega)) fun a hF => ?_)
                refine sB 1 [(42, .pointer (some ⟨bb1, 4, none⟩))] hF (by kernel_rfl) fun a hF => ?_
                refine wl (eL 43 1 4 (v := .int .i64 ad) hF hM (by kernel_rfl) rfl rfl (by kernel_rfl) (by kernel_rfl) fun a w hF hM => ?_)
                refine wl (eP 44 (v0 := .int .i64 (IntKind.i64.wrap (ad - 1))) (v := .int .i64 (ad - 1)) hF (by kernel_rfl) (fun _ => by kernel_rfl) (wi (by omega)) fun a hF => ?_)
                refine wl (eM 45 (v := .bool false) hF hM (by kernel_rfl) (yld_call (f := 31) (args := #[.int .i64 (al - ae), .int .i64 0, .int .i64 (ad - 1)]) hF (by kernel_rfl) (fun _ => by kernel_rfl) (fun w hM => fiw_no (al - ae) 0 (ad - 1) w (.inr hz15))) fun a w hF hM => ?_)
                refine sB 2 [(46, .bool false), (2, .bool false)] hF (by kernel_rfl) fun a hF => ?_
                refine wpList_nil ?_
                refine hK7 _ _ ?_
                refine wp_ret ?_
                refine hR0 _ _ ?_
                refine ret_of hF hM (.tmp rfl (.nil)) ?_
                exact ⟨ret_bool (va_no (by unfold vaP; omega)), hM.bel⟩
              ·skip
               refine wp_region_lit ?_
               refine sB 1 [(23, .pointer (some ⟨bb1, 4, none⟩))] hF (by kernel_rfl) fun a hF => ?_
               refine wl (eL 24 1 4 (v := .int .i64 ad) hF hM (by kernel_rfl) rfl rfl (by kernel_rfl) (by kernel_rfl) fun a w hF hM => ?_)
               refine wl (eM 25 (v := .bool true) hF hM (by kernel_rfl) (yld_call (f := 31) (args := #[.int .i64 ad, .int .i64 1, .int .i64 2400000]) hF (by kernel_rfl) (fun _ => by kernel_rfl) (fun w hM => fiw_yes ad 1 2400000 w hz8 hz9)) fun a w hF hM => ?_)
               refine sB 2 [(26, .bool true), (27, .pointer (some ⟨bb1, 5, none⟩))] hF (by kernel_rfl) fun a hF => ?_
               refine wl (eL 28 1 5 (v := .int .i64 ae) hF hM (by kernel_rfl) rfl rfl (by kernel_rfl) (by kernel_rfl) fun a w hF hM => ?_)
               refine wl (eM 29 (v := .bool true) hF hM (by kernel_rfl) (yld_call (f := 31) (args := #[.int .i64 ae, .int .i64 (-1099511627776), .int .i64 1099511627776]) hF (by kernel_rfl) (fun _ => by kernel_rfl) (fun w hM => fiw_yes ae (-1099511627776) 1099511627776 w hz10 hz11)) fun a w hF hM => ?_)
               refine sB 3 [(30, .bool true), (31, .bool true), (32, .pointer (some ⟨bb1, 6, none⟩))] hF (by kernel_rfl) fun a hF => ?_
               refine wl (eL 33 1 6 (v := .int .i64 al) hF hM (by kernel_rfl) rfl rfl (by kernel_rfl) (by kernel_rfl) fun a w hF hM => ?_)
               refine wl (eM 34 (v := .bool true) hF hM (by kernel_rfl) (yld_call (f := 31) (args := #[.int .i64 al, .int .i64 (-1099511627776), .int .i64 1099511627776]) hF (by kernel_rfl) (fun _ => by kernel_rfl) (fun w hM => fiw_yes al (-1099511627776) 1099511627776 w hz12 hz13)) fun a w hF hM => ?_)
               refine sB 3 [(35, .bool true), (36, .bool true), (37, .pointer (some ⟨bb1, 6, none⟩))] hF (by kernel_rfl) fun a hF => ?_
               refine wl (eL 38 1 6 (v := .int .i64 al) hF hM (by kernel_rfl) rfl rfl (by kernel_rfl) (by kernel_rfl) fun a w hF hM => ?_)
               refine sB 1 [(39, .pointer (some ⟨bb1, 5, none⟩))] hF (by kernel_rfl) fun a hF => ?_
               refine wl (eL 40 1 5 (v := .int .i64 ae) hF hM (by kernel_rfl) rfl rfl (by kernel_rfl) (by kernel_rfl) fun a w hF hM => ?_)
               refine wl (eP 41 (v0 := .int .i64 (IntKind.i64.wrap (al - ae))) (v := .int .i64 (al - ae)) hF (by kernel_rfl) (fun _ => by kernel_rfl) (wi (by omega)) fun a hF => ?_)
               refine sB 1 [(42, .pointer (some ⟨bb1, 4, none⟩))] hF (by kernel_rfl) fun a hF => ?_
               refine wl (eL 43 1 4 (v := .int .i64 ad) hF hM (by kernel_rfl) rfl rfl (by kernel_rfl) (by kernel_rfl) fun a w hF hM => ?_)
               refine wl (eP 44 (v0 := .int .i64 (IntKind.i64.wrap (ad - 1))) (v := .int .i64 (ad - 1)) hF (by kernel_rfl) (fun _ => by kernel_rfl) (wi (by omega)) fun a hF => ?_)
               refine wl (eM 45 (v := .bool false) hF hM (by kernel_rfl) (yld_call (f := 31) (args := #[.int .i64 (al - ae), .int .i64 0, .int .i64 (ad - 1)]) hF (by kernel_rfl) (fun _ => by kernel_rfl) (fun w hM => fiw_no (al - ae) 0 (ad - 1) w (.inl hz14))) fun a w hF hM => ?_)
               refine sB 2 [(46, .bool false), (2, .bool false)] hF (by kernel_rfl) fun a hF => ?_
               refine wpList_nil ?_
               refine hK7 _ _ ?_
               refine wp_ret ?_
               refine hR0 _ _ ?_
               refine ret_of hF hM (.tmp rfl (.nil)) ?_
               exact ⟨ret_bool (va_no (by unfold vaP; omega)), hM.bel⟩
             ·skip
              refine wp_region_lit ?_
              refine sB 1 [(23, .pointer (some ⟨bb1, 4, none⟩))] hF (by kernel_rfl) fun a hF => ?_
              refine wl (eL 24 1 4 (v := .int .i64 ad) hF hM (by kernel_rfl) rfl rfl (by kernel_rfl) (by kernel_rfl) fun a w hF hM => ?_)
              refine wl (eM 25 (v := .bool true) hF hM (by kernel_rfl) (yld_call (f := 31) (args := #[.int .i64 ad, .int .i64 1, .int .i64 2400000]) hF (by kernel_rfl) (fun _ => by kernel_rfl) (fun w hM => fiw_yes ad 1 2400000 w hz8 hz9)) fun a w hF hM => ?_)
              refine sB 2 [(26, .bool true), (27, .pointer (some ⟨bb1, 5, none⟩))] hF (by kernel_rfl) fun a hF => ?_
              refine wl (eL 28 1 5 (v := .int .i64 ae) hF hM (by kernel_rfl) rfl rfl (by kernel_rfl) (by kernel_rfl) fun a w hF hM => ?_)
              refine wl (eM 29 (v := .bool true) hF hM (by kernel_rfl) (yld_call (f := 31) (args := #[.int .i64 ae, .int .i64 (-1099511627776), .int .i64 1099511627776]) hF (by kernel_rfl) (fun _ => by kernel_rfl) (fun w hM => fiw_yes ae (-1099511627776) 1099511627776 w hz10 hz11)) fun a w hF hM => ?_)
              refine sB 3 [(30, .bool true), (31, .bool true), (32, .pointer (some ⟨bb1, 6, none⟩))] hF (by kernel_rfl) fun a hF => ?_
              refine wl (eL 33 1 6 (v := .int .i64 al) hF hM (by kernel_rfl) rfl rfl (by kernel_rfl) (by kernel_rfl) fun a w hF hM => ?_)
              refine wl (eM 34 (v := .bool false) hF hM (by kernel_rfl) (yld_call (f := 31) (args := #[.int .i64 al, .int .i64 (-1099511627776), .int .i64 1099511627776]) hF (by kernel_rfl) (fun _ => by kernel_rfl) (fun w hM => fiw_no al (-1099511627776) 1099511627776 w (.inr hz13))) fun a w hF hM => ?_)
              refine sB 13 [(35, .bool false), (36, .bool false), (37, undef), (38, undef), (39, undef), (40, undef), (41, undef), (42, undef), (43, undef), (44, undef), (45, undef), (46, .bool false), (2, .bool false)] hF (by kernel_rfl) fun a hF => ?_
              refine wpList_nil ?_
              refine hK7 _ _ ?_
              refine wp_ret ?_
              refine hR0 _ _ ?_
              refine ret_of hF hM (.tmp rfl (.nil)) ?_
              exact ⟨ret_bool (va_no (by unfold vaP; omega)), hM.bel⟩
            ·skip
             refine wp_region_lit ?_
             refine sB 1 [(23, .pointer (some ⟨bb1, 4, none⟩))] hF (by kernel_rfl) fun a hF => ?_
             refine wl (eL 24 1 4 (v := .int .i64 ad) hF hM (by kernel_rfl) rfl rfl (by kernel_rfl) (by kernel_rfl) fun a w hF hM => ?_)
             refine wl (eM 25 (v := .bool true) hF hM (by kernel_rfl) (yld_call (f := 31) (args := #[.int .i64 ad, .int .i64 1, .int .i64 2400000]) hF (by kernel_rfl) (fun _ => by kernel_rfl) (fun w hM => fiw_yes ad 1 2400000 w hz8 hz9)) fun a w hF hM => ?_)
             refine sB 2 [(26, .bool true), (27, .pointer (some ⟨bb1, 5, none⟩))] hF (by kernel_rfl) fun a hF => ?_
             refine wl (eL 28 1 5 (v := .int .i64 ae) hF hM (by kernel_rfl) rfl rfl (by kernel_rfl) (by kernel_rfl) fun a w hF hM => ?_)
             refine wl (eM 29 (v := .bool true) hF hM (by kernel_rfl) (yld_call (f := 31) (args := #[.int .i64 ae, .int .i64 (-1099511627776), .int .i64 1099511627776]) hF (by kernel_rfl) (fun _ => by kernel_rfl) (fun w hM => fiw_yes ae (-1099511627776) 1099511627776 w hz10 hz11)) fun a w hF hM => ?_)
             refine sB 3 [(30, .bool true), (31, .bool true), (32, .pointer (some ⟨bb1, 6, none⟩))] hF (by kernel_rfl) fun a hF => ?_
             refine wl (eL 33 1 6 (v := .int .i64 al) hF hM (by kernel_rfl) rfl rfl (by kernel_rfl) (by kernel_rfl) fun a w hF hM => ?_)
             refine wl (eM 34 (v := .bool false) hF hM (by kernel_rfl) (yld_call (f := 31) (args := #[.int .i64 al, .int .i64 (-1099511627776), .int .i64 1099511627776]) hF (by kernel_rfl) (fun _ => by kernel_rfl) (fun w hM => fiw_no al (-1099511627776) 1099511627776 w (.inl hz12))) fun a w hF hM => ?_)
             refine sB 13 [(35, .bool false), (36, .bool false), (37, undef), (38, undef), (39, undef), (40, undef), (41, undef), (42, undef), (43, undef), (44, undef), (45, undef), (46, .bool false), (2, .bool false)] hF (by kernel_rfl) fun a hF => ?_
             refine wpList_nil ?_
             refine hK7 _ _ ?_
             refine wp_ret ?_
             refine hR0 _ _ ?_
             refine ret_of hF hM (.tmp rfl (.nil)) ?_
             exact ⟨ret_bool (va_no (by unfold vaP; omega)), hM.bel⟩
           ·skip
            refine wp_region_lit ?_
            refine sB 1 [(23, .pointer (some ⟨bb1, 4, none⟩))] hF (by kernel_rfl) fun a hF => ?_
            refine wl (eL 24 1 4 (v := .int .i64 ad) hF hM (by kernel_rfl) rfl rfl (by kernel_rfl) (by kernel_rfl) fun a w hF hM => ?_)
            refine wl (eM 25 (v := .bool true) hF hM (by kernel_rfl) (yld_call (f := 31) (args := #[.int .i64 ad, .int .i64 1, .int .i64 2400000]) hF (by kernel_rfl) (fun _ => by kernel_rfl) (fun w hM => fiw_yes ad 1 2400000 w hz8 hz9)) fun a w hF hM => ?_)
            refine sB 2 [(26, .bool true), (27, .pointer (some ⟨bb1, 5, none⟩))] hF (by kernel_rfl) fun a hF => ?_
            refine wl (eL 28 1 5 (v := .int .i64 ae) hF hM (by kernel_rfl) rfl rfl (by kernel_rfl) (by kernel_rfl) fun a w hF hM => ?_)
            refine wl (eM 29 (v := .bool false) hF hM (by kernel_rfl) (yld_call (f := 31) (args := #[.int .i64 ae, .int .i64 (-1099511627776), .int .i64 1099511627776]) hF (by kernel_rfl) (fun _ => by kernel_rfl) (fun w hM => fiw_no ae (-1099511627776) 1099511627776 w (.inr hz11))) fun a w hF hM => ?_)
            refine sB 18 [(30, .bool false), (31, .bool false), (32, undef), (33, undef), (34, undef), (35, .bool false), (36, .bool false), (37, undef), (38, undef), (39, undef), (40, undef), (41, undef), (42, undef), (43, undef), (44, undef), (45, undef), (46, .bool false), (2, .bool false)] hF (by kernel_rfl) fun a hF => ?_
            refine wpList_nil ?_
            refine hK7 _ _ ?_
            refine wp_ret ?_
            refine hR0 _ _ ?_
            refine ret_of hF hM (.tmp rfl (.nil)) ?_
            exact ⟨ret_bool (va_no (by unfold vaP; omega)), hM.bel⟩
          ·skip
           refine wp_region_lit ?_
           refine sB 1 [(23, .pointer (some ⟨bb1, 4, none⟩))] hF (by kernel_rfl) fun a hF => ?_
           refine wl (eL 24 1 4 (v := .int .i64 ad) hF hM (by kernel_rfl) rfl rfl (by kernel_rfl) (by kernel_rfl) fun a w hF hM => ?_)
           refine wl (eM 25 (v := .bool true) hF hM (by kernel_rfl) (yld_call (f := 31) (args := #[.int .i64 ad, .int .i64 1, .int .i64 2400000]) hF (by kernel_rfl) (fun _ => by kernel_rfl) (fun w hM => fiw_yes ad 1 2400000 w hz8 hz9)) fun a w hF hM => ?_)
           refine sB 2 [(26, .bool true), (27, .pointer (some ⟨bb1, 5, none⟩))] hF (by kernel_rfl) fun a hF => ?_
           refine wl (eL 28 1 5 (v := .int .i64 ae) hF hM (by kernel_rfl) rfl rfl (by kernel_rfl) (by kernel_rfl) fun a w hF hM => ?_)
           refine wl (eM 29 (v := .bool false) hF hM (by kernel_rfl) (yld_call (f := 31) (args := #[.int .i64 ae, .int .i64 (-1099511627776), .int .i64 1099511627776]) hF (by kernel_rfl) (fun _ => by kernel_rfl) (fun w hM => fiw_no ae (-1099511627776) 1099511627776 w (.inl hz10))) fun a w hF hM => ?_)
           refine sB 18 [(30, .bool false), (31, .bool false), (32, undef), (33, undef), (34, undef), (35, .bool false), (36, .bool false), (37, undef), (38, undef), (39, undef), (40, undef), (41, undef), (42, undef), (43, undef), (44, undef), (45, undef), (46, .bool false), (2, .bool false)] hF (by kernel_rfl) fun a hF => ?_
           refine wpList_nil ?_
           refine hK7 _ _ ?_
           refine wp_ret ?_
           refine hR0 _ _ ?_
           refine ret_of hF hM (.tmp rfl (.nil)) ?_
           exact ⟨ret_bool (va_no (by unfold vaP; omega)), hM.bel⟩
         ·skip
          refine wp_region_lit ?_
          refine sB 1 [(23, .pointer (some ⟨bb1, 4, none⟩))] hF (by kernel_rfl) fun a hF => ?_
          refine wl (eL 24 1 4 (v := .int .i64 ad) hF hM (by kernel_rfl) rfl rfl (by kernel_rfl) (by kernel_rfl) fun a w hF hM => ?_)
          refine wl (eM 25 (v := .bool false) hF hM (by kernel_rfl) (yld_call (f := 31) (args := #[.int .i64 ad, .int .i64 1, .int .i64 2400000]) hF (by kernel_rfl) (fun _ => by kernel_rfl) (fun w hM => fiw_no ad 1 2400000 w (.inr hz9))) fun a w hF hM => ?_)
          refine sB 22 [(26, .bool false), (27, undef), (28, undef), (29, undef), (30, .bool false), (31, .bool false), (32, undef), (33, undef), (34, undef), (35, .bool false), (36, .bool false), (37, undef), (38, undef), (39, undef), (40, undef), (41, undef), (42, undef), (43, undef), (44, undef), (45, undef), (46, .bool false), (2, .bool false)] hF (by kernel_rfl) fun a hF => ?_
          refine wpList_nil ?_
          refine hK7 _ _ ?_
          refine wp_ret ?_
          refine hR0 _ _ ?_
          refine ret_of hF hM (.tmp rfl (.nil)) ?_
          exact ⟨ret_bool (va_no (by unfold vaP; omega)), hM.bel⟩
        ·skip
         refine wp_region_lit ?_
         refine sB 1 [(23, .pointer (some ⟨bb1, 4, none⟩))] hF (by kernel_rfl) fun a hF => ?_
         refine wl (eL 24 1 4 (v := .int .i64 ad) hF hM (by kernel_rfl) rfl rfl (by kernel_rfl) (by kernel_rfl) fun a w hF hM => ?_)
         refine wl (eM 25 (v := .bool false) hF hM (by kernel_rfl) (yld_call (f := 31) (args := #[.int .i64 ad, .int .i64 1, .int .i64 2400000]) hF (by kernel_rfl) (fun _ => by kernel_rfl) (fun w hM => fiw_no ad 1 2400000 w (.inl hz8))) fun a w hF hM => ?_)
         refine sB 22 [(26, .bool false), (27, undef), (28, undef), (29, undef), (30, .bool false), (31, .bool false), (32, undef), (33, undef), (34, undef), (35, .bool false), (36, .bool false), (37, undef), (38, undef), (39, undef), (40, undef), (41, undef), (42, undef), (43, undef), (44, undef), (45, undef), (46, .bool false), (2, .bool false)] hF (by kernel_rfl) fun a hF => ?_
         refine wpList_nil ?_
         refine hK7 _ _ ?_
         refine wp_ret ?_
         refine hR0 _ _ ?_
         refine ret_of hF hM (.tmp rfl (.nil)) ?_
         exact ⟨ret_bool (va_no (by unfold vaP; omega)), hM.bel⟩
       ·skip
        replace hF := hF.c hF (i := 21) (v := .bool false) rfl (bF hz7)
        replace hF := hF.c hF (i := 22) (v := .bool false) rfl (bF hz7)
        refine cF hF (by kernel_rfl) (by kernel_rfl) ?_
        refine wp_seq_k fun K8 hK8 => ?_
        refine wp_region_lit ?_
        refine sB 2 [(48, .bool (decide (ac = 6))), (47, .bool (decide (ac = 6)))] hF (by kernel_rfl) fun a hF => ?_
        refine wpList_nil ?_
        refine hK8 _ _ ?_
        by_cases hz16 : ac = 6
        ·skip
         replace hF := hF.c hF (i := 47) (v := .bool true) rfl (bT hz16)
         replace hF := hF.c hF (i := 48) (v := .bool true) rfl (bT hz16)
         refine cT hF (by kernel_rfl) (by kernel_rfl) ?_
         refine wp_seq_k fun K9 hK9 => ?_
         refine wp_region_lit ?_
         refine wl (eL 49 1 0 (v := .agg #[.int .i64 ap, .int .i64 ast, .int .i64 ac, .int .i64 asz, .int .i64 ad, .int .i64 ae, .int .i64 al]) hF hM (by kernel_rfl) rfl rfl (by kernel_rfl) (by kernel_rfl) fun a w hF hM => ?_)
         refine sB 1 [(50, .pointer (some ⟨bb1, 0, none⟩))] hF (by kernel_rfl) fun a hF => ?_
         refine wl (eL 51 1 0 (v := .int .i64 ap) hF hM (by kernel_rfl) rfl rfl (by kernel_rfl) (by kernel_rfl) fun a w hF hM => ?_)
         refine sB 1 [(52, .pointer (some ⟨bb1, 1, none⟩))] hF (by kernel_rfl) fun a hF => ?_
         refine wl (eL 53 1 1 (v := .int .i64 ast) hF hM (by kernel_rfl) rfl rfl (by kernel_rfl) (by kernel_rfl) fun a w hF hM => ?_)
         refine sB 1 [(54, .pointer (some ⟨bb1, 2, none⟩))] hF (by kernel_rfl) fun a hF => ?_
         refine wl (eL 55 1 2 (v := .int .i64 ac) hF hM (by kernel_rfl) rfl rfl (by kernel_rfl) (by kernel_rfl) fun a w hF hM => ?_)
         refine sB 1 [(56, .pointer (some ⟨bb1, 3, none⟩))] hF (by kernel_rfl) fun a hF => ?_
         refine wl (eL 57 1 3 (v := .int .i64 asz) hF hM (by kernel_rfl) rfl rfl (by kernel_rfl) (by kernel_rfl) fun a w hF hM => ?_)
         refine sB 1 [(58, .agg #[.int .i64 ap, .int .i64 ast, .int .i64 ac, .int .i64 asz, .int .i64 0, .int .i64 0, .int .i64 0])] hF (by kernel_rfl) fun a hF => ?_
         refine wl (eM 59 (v := .bool (decide ([ap, ast, ac, asz, ad, ae, al] = [ap, ast, ac, asz, 0, 0, 0]))) hF hM (by kernel_rfl) (yld_eql (C := Mem _ _ _) [ap, ast, ac, asz, ad, ae, al] [ap, ast, ac, asz, 0, 0, 0] hF rfl (by kernel_rfl) (by kernel_rfl) (by kernel_rfl) rfl (by kernel_rfl) (by kernel_rfl) (by kernel_rfl) rfl rfl) fun a w hF hM => ?_)
         refine sB 1 [(2, .bool (decide ([ap, ast, ac, asz, ad, ae, al] = [ap, ast, ac, asz, 0, 0, 0])))] hF (by kernel_rfl) fun a hF => ?_
         refine wpList_nil ?_
         refine hK9 _ _ ?_
         refine wp_ret ?_
         refine hR0 _ _ ?_
         refine ret_of hF hM (.tmp rfl (.nil)) ?_
         exact ⟨ret_bool (va_dec (by unfold vaP; (try simp only [List.cons.injEq, and_true, true_and]); omega)), hM.bel⟩
        ·skip
         replace hF := hF.c hF (i := 47) (v := .bool false) rfl (bF hz16)
         replace hF := hF.c hF (i := 48) (v := .bool false) rfl (bF hz16)
         refine cF hF (by kernel_rfl) (by kernel_rfl) ?_
         refine wp_skip ?_
         refine hK4 _ _ ?_
         refine wp_seq_k fun K10 hK10 => ?_
         refine wp_region_lit ?_
         refine sB 1 [(2, .bool false)] hF (by kernel_rfl) fun a hF => ?_
         refine wpList_nil ?_
         refine hK10 _ _ ?_
         refine wp_ret ?_
         refine hR0 _ _ ?_
         refine ret_of hF hM (.tmp rfl (.nil)) ?_
         exact ⟨ret_bool (va_no (by unfold vaP; omega)), hM.bel⟩
      ·skip
       refine wp_region_lit ?_
       refine sB 1 [(3, .pointer (some ⟨bb1, 0, none⟩))] hF (by kernel_rfl) fun a hF => ?_
       refine wl (eL 4 1 0 (v := .int .i64 ap) hF hM (by kernel_rfl) rfl rfl (by kernel_rfl) (by kernel_rfl) fun a w hF hM => ?_)
       refine wl (eM 5 (v := .bool true) hF hM (by kernel_rfl) (yld_call (f := 31) (args := #[.int .i64 ap, .int .i64 0, .int .i64 47]) hF (by kernel_rfl) (fun _ => by kernel_rfl) (fun w hM => fiw_yes ap 0 47 w hz1 hz2)) fun a w hF hM => ?_)
       refine sB 3 [(6, .bool false), (7, .bool false), (8, .pointer (some ⟨bb1, 1, none⟩))] hF (by kernel_rfl) fun a hF => ?_
       refine wl (eL 9 1 1 (v := .int .i64 ast) hF hM (by kernel_rfl) rfl rfl (by kernel_rfl) (by kernel_rfl) fun a w hF hM => ?_)
       refine wl (eM 10 (v := .bool true) hF hM (by kernel_rfl) (yld_call (f := 31) (args := #[.int .i64 ast, .int .i64 1, .int .i64 4095]) hF (by kernel_rfl) (fun _ => by kernel_rfl) (fun w hM => fiw_yes ast 1 4095 w hz3 hz4)) fun a w hF hM => ?_)
       refine sB 4 [(11, .bool false), (12, .bool false), (13, .bool false), (14, .pointer (some ⟨bb1, 3, none⟩))] hF (by kernel_rfl) fun a hF => ?_
       refine wl (eL 15 1 3 (v := .int .i64 asz) hF hM (by kernel_rfl) rfl rfl (by kernel_rfl) (by kernel_rfl) fun a w hF hM => ?_)
       refine wl (eM 16 (v := .bool false) hF hM (by kernel_rfl) (yld_call (f := 31) (args := #[.int .i64 asz, .int .i64 84, .int .i64 1542]) hF (by kernel_rfl) (fun _ => by kernel_rfl) (fun w hM => fiw_no asz 84 1542 w (.inr hz6))) fun a w hF hM => ?_)
       refine sB 2 [(17, .bool true), (18, .bool true)] hF (by kernel_rfl) fun a hF => ?_
       refine wpList_nil ?_
       refine hK3 _ _ ?_
       refine cT hF (by kernel_rfl) (by kernel_rfl) ?_
       refine wp_seq_k fun K11 hK11 => ?_
       refine wp_region_lit ?_
       refine sB 1 [(2, .bool false)] hF (by kernel_rfl) fun a hF => ?_
       refine wpList_nil ?_
       refine hK11 _ _ ?_
       refine wp_ret ?_
       refine hR0 _ _ ?_
       refine ret_of hF hM (.tmp rfl (.nil)) ?_
       exact ⟨ret_bool (va_no (by unfold vaP; omega)), hM.bel⟩
     ·skip
      refine wp_region_lit ?_
      refine sB 1 [(3, .pointer (some ⟨bb1, 0, none⟩))] hF (by kernel_rfl) fun a hF => ?_
      refine wl (eL 4 1 0 (v := .int .i64 ap) hF hM (by kernel_rfl) rfl rfl (by kernel_rfl) (by kernel_rfl) fun a w hF hM => ?_)
      refine wl (eM 5 (v := .bool true) hF hM (by kernel_rfl) (yld_call (f := 31) (args := #[.int .i64 ap, .int .i64 0, .int .i64 47]) hF (by kernel_rfl) (fun _ => by kernel_rfl) (fun w hM => fiw_yes ap 0 47 w hz1 hz2)) fun a w hF hM => ?_)
      refine sB 3 [(6, .bool false), (7, .bool false), (8, .pointer (some ⟨bb1, 1, none⟩))] hF (by kernel_rfl) fun a hF => ?_
      refine wl (eL 9 1 1 (v := .int .i64 ast) hF hM (by kernel_rfl) rfl rfl (by kernel_rfl) (by kernel_rfl) fun a w hF hM => ?_)
      refine wl (eM 10 (v := .bool true) hF hM (by kernel_rfl) (yld_call (f := 31) (args := #[.int .i64 ast, .int .i64 1, .int .i64 4095]) hF (by kernel_rfl) (fun _ => by kernel_rfl) (fun w hM => fiw_yes ast 1 4095 w hz3 hz4)) fun a w hF hM => ?_)
      refine sB 4 [(11, .bool false), (12, .bool false), (13, .bool false), (14, .pointer (some ⟨bb1, 3, none⟩))] hF (by kernel_rfl) fun a hF => ?_
      refine wl (eL 15 1 3 (v := .int .i64 asz) hF hM (by kernel_rfl) rfl rfl (by kernel_rfl) (by kernel_rfl) fun a w hF hM => ?_)
      refine wl (eM 16 (v := .bool false) hF hM (by kernel_rfl) (yld_call (f := 31) (args := #[.int .i64 asz, .int .i64 84, .int .i64 1542]) hF (by kernel_rfl) (fun _ => by kernel_rfl) (fun w hM => fiw_no asz 84 1542 w (.inl hz5))) fun a w hF hM => ?_)
      refine sB 2 [(17, .bool true), (18, .bool true)] hF (by kernel_rfl) fun a hF => ?_
      refine wpList_nil ?_
      refine hK3 _ _ ?_
      refine cT hF (by kernel_rfl) (by kernel_rfl) ?_
      refine wp_seq_k fun K12 hK12 => ?_
      refine wp_region_lit ?_
      refine sB 1 [(2, .bool false)] hF (by kernel_rfl) fun a hF => ?_
      refine wpList_nil ?_
      refine hK12 _ _ ?_
      refine wp_ret ?_
      refine hR0 _ _ ?_
      refine ret_of hF hM (.tmp rfl (.nil)) ?_
      exact ⟨ret_bool (va_no (by unfold vaP; omega)), hM.bel⟩
    ·skip
     refine wp_region_lit ?_
     refine sB 1 [(3, .pointer (some ⟨bb1, 0, none⟩))] hF (by kernel_rfl) fun a hF => ?_
     refine wl (eL 4 1 0 (v := .int .i64 ap) hF hM (by kernel_rfl) rfl rfl (by kernel_rfl) (by kernel_rfl) fun a w hF hM => ?_)
     refine wl (eM 5 (v := .bool true) hF hM (by kernel_rfl) (yld_call (f := 31) (args := #[.int .i64 ap, .int .i64 0, .int .i64 47]) hF (by kernel_rfl) (fun _ => by kernel_rfl) (fun w hM => fiw_yes ap 0 47 w hz1 hz2)) fun a w hF hM => ?_)
     refine sB 3 [(6, .bool false), (7, .bool false), (8, .pointer (some ⟨bb1, 1, none⟩))] hF (by kernel_rfl) fun a hF => ?_
     refine wl (eL 9 1 1 (v := .int .i64 ast) hF hM (by kernel_rfl) rfl rfl (by kernel_rfl) (by kernel_rfl) fun a w hF hM => ?_)
     refine wl (eM 10 (v := .bool false) hF hM (by kernel_rfl) (yld_call (f := 31) (args := #[.int .i64 ast, .int .i64 1, .int .i64 4095]) hF (by kernel_rfl) (fun _ => by kernel_rfl) (fun w hM => fiw_no ast 1 4095 w (.inr hz4))) fun a w hF hM => ?_)
     refine sB 8 [(11, .bool true), (12, .bool true), (13, .bool true), (14, undef), (15, undef), (16, undef), (17, undef), (18, .bool true)] hF (by kernel_rfl) fun a hF => ?_
     refine wpList_nil ?_
     refine hK3 _ _ ?_
     refine cT hF (by kernel_rfl) (by kernel_rfl) ?_
     refine wp_seq_k fun K13 hK13 => ?_
     refine wp_region_lit ?_
     refine sB 1 [(2, .bool false)] hF (by kernel_rfl) fun a hF => ?_
     refine wpList_nil ?_
     refine hK13 _ _ ?_
     refine wp_ret ?_
     refine hR0 _ _ ?_
     refine ret_of hF hM (.tmp rfl (.nil)) ?_
     exact ⟨ret_bool (va_no (by unfold vaP; omega)), hM.bel⟩
   ·skip
    refine wp_region_lit ?_
    refine sB 1 [(3, .pointer (some ⟨bb1, 0, none⟩))] hF (by kernel_rfl) fun a hF => ?_
    refine wl (eL 4 1 0 (v := .int .i64 ap) hF hM (by kernel_rfl) rfl rfl (by kernel_rfl) (by kernel_rfl) fun a w hF hM => ?_)
    refine wl (eM 5 (v := .bool true) hF hM (by kernel_rfl) (yld_call (f := 31) (args := #[.int .i64 ap, .int .i64 0, .int .i64 47]) hF (by kernel_rfl) (fun _ => by kernel_rfl) (fun w hM => fiw_yes ap 0 47 w hz1 hz2)) fun a w hF hM => ?_)
    refine sB 3 [(6, .bool false), (7, .bool false), (8, .pointer (some ⟨bb1, 1, none⟩))] hF (by kernel_rfl) fun a hF => ?_
    refine wl (eL 9 1 1 (v := .int .i64 ast) hF hM (by kernel_rfl) rfl rfl (by kernel_rfl) (by kernel_rfl) fun a w hF hM => ?_)
    refine wl (eM 10 (v := .bool false) hF hM (by kernel_rfl) (yld_call (f := 31) (args := #[.int .i64 ast, .int .i64 1, .int .i64 4095]) hF (by kernel_rfl) (fun _ => by kernel_rfl) (fun w hM => fiw_no ast 1 4095 w (.inl hz3))) fun a w hF hM => ?_)
    refine sB 8 [(11, .bool true), (12, .bool true), (13, .bool true), (14, undef), (15, undef), (16, undef), (17, undef), (18, .bool true)] hF (by kernel_rfl) fun a hF => ?_
    refine wpList_nil ?_
    refine hK3 _ _ ?_
    refine cT hF (by kernel_rfl) (by kernel_rfl) ?_
    refine wp_seq_k fun K14 hK14 => ?_
    refine wp_region_lit ?_
    refine sB 1 [(2, .bool false)] hF (by kernel_rfl) fun a hF => ?_
    refine wpList_nil ?_
    refine hK14 _ _ ?_
    refine wp_ret ?_
    refine hR0 _ _ ?_
    refine ret_of hF hM (.tmp rfl (.nil)) ?_
    exact ⟨ret_bool (va_no (by unfold vaP; omega)), hM.bel⟩
  ·skip
   refine wp_region_lit ?_
   refine sB 1 [(3, .pointer (some ⟨bb1, 0, none⟩))] hF (by kernel_rfl) fun a hF => ?_
   refine wl (eL 4 1 0 (v := .int .i64 ap) hF hM (by kernel_rfl) rfl rfl (by kernel_rfl) (by kernel_rfl) fun a w hF hM => ?_)
   refine wl (eM 5 (v := .bool false) hF hM (by kernel_rfl) (yld_call (f := 31) (args := #[.int .i64 ap, .int .i64 0, .int .i64 47]) hF (by kernel_rfl) (fun _ => by kernel_rfl) (fun w hM => fiw_no ap 0 47 w (.inr hz2))) fun a w hF hM => ?_)
   refine sB 13 [(6, .bool true), (7, .bool true), (8, undef), (9, undef), (10, undef), (11, undef), (12, .bool true), (13, .bool true), (14, undef), (15, undef), (16, undef), (17, undef), (18, .bool true)] hF (by kernel_rfl) fun a hF => ?_
   refine wpList_nil ?_
   refine hK3 _ _ ?_
   refine cT hF (by kernel_rfl) (by kernel_rfl) ?_
   refine wp_seq_k fun K15 hK15 => ?_
   refine wp_region_lit ?_
   refine sB 1 [(2, .bool false)] hF (by kernel_rfl) fun a hF => ?_
   refine wpList_nil ?_
   refine hK15 _ _ ?_
   refine wp_ret ?_
   refine hR0 _ _ ?_
   refine ret_of hF hM (.tmp rfl (.nil)) ?_
   exact ⟨ret_bool (va_no (by unfold vaP; omega)), hM.bel⟩
 ·skip
  refine wp_region_lit ?_
  refine sB 1 [(3, .pointer (some ⟨bb1, 0, none⟩))] hF (by kernel_rfl) fun a hF => ?_
  refine wl (eL 4 1 0 (v := .int .i64 ap) hF hM (by kernel_rfl) rfl rfl (by kernel_rfl) (by kernel_rfl) fun a w hF hM => ?_)
  refine wl (eM 5 (v := .bool false) hF hM (by kernel_rfl) (yld_call (f := 31) (args := #[.int .i64 ap, .int .i64 0, .int .i64 47]) hF (by kernel_rfl) (fun _ => by kernel_rfl) (fun w hM => fiw_no ap 0 47 w (.inl hz1))) fun a w hF hM => ?_)
  refine sB 13 [(6, .bool true), (7, .bool true), (8, undef), (9, undef), (10, undef), (11, undef), (12, .bool true), (13, .bool true), (14, undef), (15, undef), (16, undef), (17, undef), (18, .bool true)] hF (by kernel_rfl) fun a hF => ?_
  refine wpList_nil ?_
  refine hK3 _ _ ?_
  refine cT hF (by kernel_rfl) (by kernel_rfl) ?_
  refine wp_seq_k fun K16 hK16 => ?_
  refine wp_region_lit ?_
  refine sB 1 [(2, .bool false)] hF (by kernel_rfl) fun a hF => ?_
  refine wpList_nil ?_
  refine hK16 _ _ ?_
  refine wp_ret ?_
  refine hR0 _ _ ?_
  refine ret_of hF hM (.tmp rfl (.nil)) ?_
  exact ⟨ret_bool (va_no (by unfold vaP; omega)), hM.bel⟩

end Go.Proofs.Ytogeficooemngaa
