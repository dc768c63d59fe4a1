/-
  Contracts of package shape: Eligible, and its reference.
-/
import Derived.Test.YtaekcgapbkmepaaShapeA
namespace Go.Proofs.Ytaekcgapbkmepaa
open Go.RowKit
set_option linter.unusedVariables false
set_option linter.unusedSimpArgs false

theorem shElig_w (b r la lv at_ s : Int) (w0 : World) :
    Calls Try.prog 14 #[.agg #[.int .i64 b, .int .i64 r], .agg #[.int .i64 la, .int .i64 lv], .int .i64 at_, .int .i64 s] w0 (Ret w0 (.tuple #[.int .i64 (seT b r la lv at_ s), .agg #[.int .i64 (seT b r la lv at_ s), .int .i64 (seL b r la lv at_ s)], .int .i64 (seE b r la lv at_ s)])) := by
  refine enterK 52 Try.func14 rfl rfl rfl ?_
  intro a hF Q0 hR0 hN0
  have hM := Mem.start w0
  refine wp_seq_k fun K1 hK1 => ?_
  refine wp_region_lit ?_
  refine wl (eN 4 1 (t := 23) (fun b => .pointer (some ⟨b, 0, none⟩)) #[.int .i64 b, .int .i64 r] hF hM (by kernel_rfl) (fun _ => by kernel_rfl) fun bb1 a w hF hM => ?_)
  refine wl (eN 5 2 (t := 29) (fun b => .pointer (some ⟨b, 0, none⟩)) #[.int .i64 la, .int .i64 lv] hF hM (by kernel_rfl) (fun _ => by kernel_rfl) fun bb2 a w hF hM => ?_)
  refine sB 1 [(8, .int .i64 0)] hF (by kernel_rfl) fun a hF => ?_
  refine wl (eN 9 3 (t := 29) (fun b => .pointer (some ⟨b, 0, none⟩)) #[.int .i64 0, .int .i64 0] hF hM (by kernel_rfl) (fun _ => by kernel_rfl) fun bb3 a w hF hM => ?_)
  refine sB 1 [(10, .int .i64 0)] hF (by kernel_rfl) fun a hF => ?_
  refine wpList_nil ?_
  refine hK1 _ _ ?_
  refine wp_seq_k fun K2 hK2 => ?_
  refine wp_seq_k fun K3 hK3 => ?_
  refine wp_region_lit ?_
  refine wl (eL 12 1 0 (v := .agg #[.int .i64 b, .int .i64 r]) hF hM (by kernel_rfl) rfl rfl (by kernel_rfl) (by kernel_rfl) fun a w hF hM => ?_)
  refine wl (eL 13 2 0 (v := .agg #[.int .i64 la, .int .i64 lv]) hF hM (by kernel_rfl) rfl rfl (by kernel_rfl) (by kernel_rfl) fun a w hF hM => ?_)
  refine wl (eM 14 (v := .int .i64 (skE b r la lv)) hF hM (by kernel_rfl) (yld_call (f := 12) (args := #[.agg #[.int .i64 b, .int .i64 r], .agg #[.int .i64 la, .int .i64 lv]]) hF (by kernel_rfl) (fun _ => by kernel_rfl) (fun w hM => shCheck_w b r la lv w)) fun a w hF hM => ?_)
  refine sB 1 [(11, .int .i64 (skE b r la lv))] hF (by kernel_rfl) fun a hF => ?_
  refine wpList_nil ?_
  refine hK3 _ _ ?_
  refine wp_seq_k fun K4 hK4 => ?_
  refine wp_region_lit ?_
  refine sB 2 [(15, .int .i64 (skE b r la lv)), (16, .bool (!decide (skE b r la lv = 0)))] hF (by kernel_rfl) fun a hF => ?_
  refine wpList_nil ?_
  refine hK4 _ _ ?_
  by_cases hz1 : skE b r la lv = 0
  · skip
    have hz2 := sk_bd hz1
    replace hF := hF.c hF (i := 16) (v := .bool false) rfl (nT hz1)
    refine cF hF (by kernel_rfl) (by kernel_rfl) ?_
    refine wp_skip ?_
    refine hK2 _ _ ?_
    refine wp_seq_k fun K5 hK5 => ?_
    refine wp_seq_k fun K6 hK6 => ?_
    by_cases hz3 : at_ < 0
    · skip
      refine wp_region_lit ?_
      refine sB 1 [(19, .int .i64 at_)] hF (by kernel_rfl) fun a hF => ?_
      refine wl (eP 20 (v0 := .bool (decide (at_ < 0))) (v := .bool true) hF (by kernel_rfl) (fun _ => by kernel_rfl) (bT hz3) fun a hF => ?_)
      refine sB 12 [(21, .bool true), (22, undef), (23, undef), (24, .bool true), (25, .bool true), (26, undef), (27, undef), (28, .bool true), (29, .bool true), (30, undef), (31, undef), (32, .bool true)] hF (by kernel_rfl) fun a hF => ?_
      refine wpList_nil ?_
      refine hK6 _ _ ?_
      refine cT hF (by kernel_rfl) (by kernel_rfl) ?_
      refine wp_seq_k fun K7 hK7 => ?_
      refine wp_region_lit ?_
      refine sB 2 [(33, .agg #[.int .i64 0, .int .i64 0]), (8, .int .i64 0)] hF (by kernel_rfl) fun a hF => ?_
      refine wl (sStore (i := 3) (off := 0) (cs' := #[.int .i64 0, .int .i64 0]) hF hM (by kernel_rfl) rfl rfl (by kernel_rfl) (by kernel_rfl) rfl (by kernel_rfl) fun w hM => ?_)
      refine sB 1 [(10, .int .i64 2)] hF (by kernel_rfl) fun a hF => ?_
      refine wpList_nil ?_
      refine hK7 _ _ ?_
      refine wp_ret ?_
      refine hR0 _ _ ?_
      refine ret_of hF hM (.tmp rfl (.cell (i := 3) rfl rfl (v := .agg #[.int .i64 0, .int .i64 0]) (by kernel_rfl) (.tmp rfl (.nil)))) ?_
      have hd := se_2 (at_ := at_) (s := s) hz1 (by omega)
      exact ⟨ret_eq (by rw [hd.1, hd.2.1, hd.2.2]; rfl), hM.bel⟩
    · skip
      by_cases hz4 : 1099511627776 < at_
      · skip
        refine wp_region_lit ?_
        refine sB 1 [(19, .int .i64 at_)] hF (by kernel_rfl) fun a hF => ?_
        refine wl (eP 20 (v0 := .bool (decide (at_ < 0))) (v := .bool false) hF (by kernel_rfl) (fun _ => by kernel_rfl) (bF hz3) fun a hF => ?_)
        refine sB 2 [(21, .bool false), (22, .int .i64 at_)] hF (by kernel_rfl) fun a hF => ?_
        refine wl (eP 23 (v0 := .bool (decide (1099511627776 < at_))) (v := .bool true) hF (by kernel_rfl) (fun _ => by kernel_rfl) (bT hz4) fun a hF => ?_)
        refine sB 9 [(24, .bool true), (25, .bool true), (26, undef), (27, undef), (28, .bool true), (29, .bool true), (30, undef), (31, undef), (32, .bool true)] hF (by kernel_rfl) fun a hF => ?_
        refine wpList_nil ?_
        refine hK6 _ _ ?_
        refine cT hF (by kernel_rfl) (by kernel_rfl) ?_
        refine wp_seq_k fun K8 hK8 => ?_
        refine wp_region_lit ?_
        refine sB 2 [(33, .agg #[.int .i64 0, .int .i64 0]), (8, .int .i64 0)] hF (by kernel_rfl) fun a hF => ?_
        refine wl (sStore (i := 3) (off := 0) (cs' := #[.int .i64 0, .int .i64 0]) hF hM (by kernel_rfl) rfl rfl (by kernel_rfl) (by kernel_rfl) rfl (by kernel_rfl) fun w hM => ?_)
        refine sB 1 [(10, .int .i64 2)] hF (by kernel_rfl) fun a hF => ?_
        refine wpList_nil ?_
        refine hK8 _ _ ?_
        refine wp_ret ?_
        refine hR0 _ _ ?_
        refine ret_of hF hM (.tmp rfl (.cell (i := 3) rfl rfl (v := .agg #[.int .i64 0, .int .i64 0]) (by kernel_rfl) (.tmp rfl (.nil)))) ?_
        have hd := se_2 (at_ := at_) (s := s) hz1 (by omega)
        exact ⟨ret_eq (by rw [hd.1, hd.2.1, hd.2.2]; rfl), hM.bel⟩
      · skip
        by_cases hz5 : s < 1
        · skip
          refine wp_region_lit ?_
          refine sB 1 [(19, .int .i64 at_)] hF (by kernel_rfl) fun a hF => ?_
          refine wl (eP 20 (v0 := .bool (decide (at_ < 0))) (v := .bool false) hF (by kernel_rfl) (fun _ => by kernel_rfl) (bF hz3) fun a hF => ?_)
          refine sB 2 [(21, .bool false), (22, .int .i64 at_)] hF (by kernel_rfl) fun a hF => ?_
          refine wl (eP 23 (v0 := .bool (decide (1099511627776 < at_))) (v := .bool false) hF (by kernel_rfl) (fun _ => by kernel_rfl) (bF hz4) fun a hF => ?_)
          refine sB 3 [(24, .bool false), (25, .bool false), (26, .int .i64 s)] hF (by kernel_rfl) fun a hF => ?_
          refine wl (eP 27 (v0 := .bool (decide (s < 1))) (v := .bool true) hF (by kernel_rfl) (fun _ => by kernel_rfl) (bT hz5) fun a hF => ?_)
          refine sB 5 [(28, .bool true), (29, .bool true), (30, undef), (31, undef), (32, .bool true)] hF (by kernel_rfl) fun a hF => ?_
          refine wpList_nil ?_
          refine hK6 _ _ ?_
          refine cT hF (by kernel_rfl) (by kernel_rfl) ?_
          refine wp_seq_k fun K9 hK9 => ?_
          refine wp_region_lit ?_
          refine sB 2 [(33, .agg #[.int .i64 0, .int .i64 0]), (8, .int .i64 0)] hF (by kernel_rfl) fun a hF => ?_
          refine wl (sStore (i := 3) (off := 0) (cs' := #[.int .i64 0, .int .i64 0]) hF hM (by kernel_rfl) rfl rfl (by kernel_rfl) (by kernel_rfl) rfl (by kernel_rfl) fun w hM => ?_)
          refine sB 1 [(10, .int .i64 2)] hF (by kernel_rfl) fun a hF => ?_
          refine wpList_nil ?_
          refine hK9 _ _ ?_
          refine wp_ret ?_
          refine hR0 _ _ ?_
          refine ret_of hF hM (.tmp rfl (.cell (i := 3) rfl rfl (v := .agg #[.int .i64 0, .int .i64 0]) (by kernel_rfl) (.tmp rfl (.nil)))) ?_
          have hd := se_2 (at_ := at_) (s := s) hz1 (by omega)
          exact ⟨ret_eq (by rw [hd.1, hd.2.1, hd.2.2]; rfl), hM.bel⟩
        · skip
          refine wp_region_lit ?_
          refine sB 1 [(19, .int .i64 at_)] hF (by kernel_rfl) fun a hF => ?_
          refine wl (eP 20 (v0 := .bool (decide (at_ < 0))) (v := .bool false) hF (by kernel_rfl) (fun _ => by kernel_rfl) (bF hz3) fun a hF => ?_)
          refine sB 2 [(21, .bool false), (22, .int .i64 at_)] hF (by kernel_rfl) fun a hF => ?_
          refine wl (eP 23 (v0 := .bool (decide (1099511627776 < at_))) (v := .bool false) hF (by kernel_rfl) (fun _ => by kernel_rfl) (bF hz4) fun a hF => ?_)
          refine sB 3 [(24, .bool false), (25, .bool false), (26, .int .i64 s)] hF (by kernel_rfl) fun a hF => ?_
          refine wl (eP 27 (v0 := .bool (decide (s < 1))) (v := .bool false) hF (by kernel_rfl) (fun _ => by kernel_rfl) (bF hz5) fun a hF => ?_)
          refine sB 5 [(28, .bool false), (29, .bool false), (30, .int .i64 s), (31, .bool (decide (1048576 < s))), (32, .bool (decide (1048576 < s)))] hF (by kernel_rfl) fun a hF => ?_
          refine wpList_nil ?_
          refine hK6 _ _ ?_
          by_cases hz6 : 1048576 < s
          · skip
            replace hF := hF.c hF (i := 31) (v := .bool true) rfl (bT hz6)
            replace hF := hF.c hF (i := 32) (v := .bool true) rfl (bT hz6)
            refine cT hF (by kernel_rfl) (by kernel_rfl) ?_
            refine wp_seq_k fun K10 hK10 => ?_
            refine wp_region_lit ?_
            refine sB 2 [(33, .agg #[.int .i64 0, .int .i64 0]), (8, .int .i64 0)] hF (by kernel_rfl) fun a hF => ?_
            refine wl (sStore (i := 3) (off := 0) (cs' := #[.int .i64 0, .int .i64 0]) hF hM (by kernel_rfl) rfl rfl (by kernel_rfl) (by kernel_rfl) rfl (by kernel_rfl) fun w hM => ?_)
            refine sB 1 [(10, .int .i64 2)] hF (by kernel_rfl) fun a hF => ?_
            refine wpList_nil ?_
            refine hK10 _ _ ?_
            refine wp_ret ?_
            refine hR0 _ _ ?_
            refine ret_of hF hM (.tmp rfl (.cell (i := 3) rfl rfl (v := .agg #[.int .i64 0, .int .i64 0]) (by kernel_rfl) (.tmp rfl (.nil)))) ?_
            have hd := se_2 (at_ := at_) (s := s) hz1 (by omega)
            exact ⟨ret_eq (by rw [hd.1, hd.2.1, hd.2.2]; rfl), hM.bel⟩
          · skip
            replace hF := hF.c hF (i := 31) (v := .bool false) rfl (bF hz6)
            replace hF := hF.c hF (i := 32) (v := .bool false) rfl (bF hz6)
            refine cF hF (by kernel_rfl) (by kernel_rfl) ?_
            refine wp_skip ?_
            refine hK5 _ _ ?_
            refine wp_seq_k fun K11 hK11 => ?_
            refine wp_seq_k fun K12 hK12 => ?_
            refine wp_region_lit ?_
            refine sB 2 [(34, .int .i64 s), (35, .pointer (some ⟨bb1, 0, none⟩))] hF (by kernel_rfl) fun a hF => ?_
            refine wl (eL 36 1 0 (v := .int .i64 b) hF hM (by kernel_rfl) rfl rfl (by kernel_rfl) (by kernel_rfl) fun a w hF hM => ?_)
            refine sB 1 [(37, .bool (decide (b < s)))] hF (by kernel_rfl) fun a hF => ?_
            refine wpList_nil ?_
            refine hK12 _ _ ?_
            by_cases hz7 : b < s
            · skip
              replace hF := hF.c hF (i := 37) (v := .bool true) rfl (bT hz7)
              refine cT hF (by kernel_rfl) (by kernel_rfl) ?_
              refine wp_seq_k fun K13 hK13 => ?_
              refine wp_region_lit ?_
              refine sB 2 [(38, .agg #[.int .i64 0, .int .i64 0]), (8, .int .i64 0)] hF (by kernel_rfl) fun a hF => ?_
              refine wl (sStore (i := 3) (off := 0) (cs' := #[.int .i64 0, .int .i64 0]) hF hM (by kernel_rfl) rfl rfl (by kernel_rfl) (by kernel_rfl) rfl (by kernel_rfl) fun w hM => ?_)
              refine sB 1 [(10, .int .i64 4)] hF (by kernel_rfl) fun a hF => ?_
              refine wpList_nil ?_
              refine hK13 _ _ ?_
              refine wp_ret ?_
              refine hR0 _ _ ?_
              refine ret_of hF hM (.tmp rfl (.cell (i := 3) rfl rfl (v := .agg #[.int .i64 0, .int .i64 0]) (by kernel_rfl) (.tmp rfl (.nil)))) ?_
              have hd := se_4 (at_ := at_) (s := s) hz1 (by omega) (by omega)
              exact ⟨ret_eq (by rw [hd.1, hd.2.1, hd.2.2]; rfl), hM.bel⟩
            · skip
              replace hF := hF.c hF (i := 37) (v := .bool false) rfl (bF hz7)
              refine cF hF (by kernel_rfl) (by kernel_rfl) ?_
              refine wp_skip ?_
              refine hK11 _ _ ?_
              refine wp_seq_k fun K14 hK14 => ?_
              refine wp_region_lit ?_
              refine wl (eL 40 1 0 (v := .agg #[.int .i64 b, .int .i64 r]) hF hM (by kernel_rfl) rfl rfl (by kernel_rfl) (by kernel_rfl) fun a w hF hM => ?_)
              refine wl (eL 41 2 0 (v := .agg #[.int .i64 la, .int .i64 lv]) hF hM (by kernel_rfl) rfl rfl (by kernel_rfl) (by kernel_rfl) fun a w hF hM => ?_)
              refine sB 2 [(42, .int .i64 at_), (43, .int .i64 s)] hF (by kernel_rfl) fun a hF => ?_
              refine wl (eM 44 (v := .tuple #[.int .i64 (elT b r la lv at_ s), .agg #[.int .i64 (elT b r la lv at_ s), .int .i64 (elL b r la lv at_ s)]]) hF hM (by kernel_rfl) (yld_call (f := 28) (args := #[.agg #[.int .i64 b, .int .i64 r], .agg #[.int .i64 la, .int .i64 lv], .int .i64 at_, .int .i64 s]) hF (by kernel_rfl) (fun _ => by kernel_rfl) (fun w hM => eligible_w b r la lv at_ s w hz1 (by omega) (by omega))) fun a w hF hM => ?_)
              have := el_bd (at_ := at_) (s := s) hz1 (by omega) (by omega)
              refine sB 4 [(39, .tuple #[.int .i64 (elT b r la lv at_ s), .agg #[.int .i64 (elT b r la lv at_ s), .int .i64 (elL b r la lv at_ s)]]), (45, .int .i64 (elT b r la lv at_ s)), (46, .agg #[.int .i64 (elT b r la lv at_ s), .int .i64 (elL b r la lv at_ s)]), (8, .int .i64 (elT b r la lv at_ s))] hF (by kernel_rfl) fun a hF => ?_
              refine wl (sStore (i := 3) (off := 0) (cs' := #[.int .i64 (elT b r la lv at_ s), .int .i64 (elL b r la lv at_ s)]) hF hM (by kernel_rfl) rfl rfl (by kernel_rfl) (by kernel_rfl) rfl (by kernel_rfl) fun w hM => ?_)
              refine wpList_nil ?_
              refine hK14 _ _ ?_
              refine wp_seq_k fun K15 hK15 => ?_
              refine wp_seq_k fun K16 hK16 => ?_
              refine wp_region_lit ?_
              refine sB 2 [(47, .int .i64 (elT b r la lv at_ s)), (48, .bool (decide (1099511627776 < elT b r la lv at_ s)))] hF (by kernel_rfl) fun a hF => ?_
              refine wpList_nil ?_
              refine hK16 _ _ ?_
              by_cases hz8 : 1099511627776 < elT b r la lv at_ s
              · skip
                replace hF := hF.c hF (i := 48) (v := .bool true) rfl (bT hz8)
                refine cT hF (by kernel_rfl) (by kernel_rfl) ?_
                refine wp_seq_k fun K17 hK17 => ?_
                refine wp_region_lit ?_
                refine sB 2 [(49, .agg #[.int .i64 0, .int .i64 0]), (8, .int .i64 0)] hF (by kernel_rfl) fun a hF => ?_
                refine wl (sStore (i := 3) (off := 0) (cs' := #[.int .i64 0, .int .i64 0]) hF hM (by kernel_rfl) rfl rfl (by kernel_rfl) (by kernel_rfl) rfl (by kernel_rfl) fun w hM => ?_)
                refine sB 1 [(10, .int .i64 6)] hF (by kernel_rfl) fun a hF => ?_
                refine wpList_nil ?_
                refine hK17 _ _ ?_
                refine wp_ret ?_
                refine hR0 _ _ ?_
                refine ret_of hF hM (.tmp rfl (.cell (i := 3) rfl rfl (v := .agg #[.int .i64 0, .int .i64 0]) (by kernel_rfl) (.tmp rfl (.nil)))) ?_
                have hd := se_6 (at_ := at_) (s := s) hz1 (by omega) (by omega) (by omega)
                exact ⟨ret_eq (by rw [hd.1, hd.2.1, hd.2.2]; rfl), hM.bel⟩
              · skip
                replace hF := hF.c hF (i := 48) (v := .bool false) rfl (bF hz8)
                refine cF hF (by kernel_rfl) (by kernel_rfl) ?_
                refine wp_skip ?_
                refine hK15 _ _ ?_
                refine wp_seq_k fun K18 hK18 => ?_
                refine rT 3 (by kernel_rfl) (by kernel_rfl) hM.drew ?_
                refine eQ 50 (v0 := .int .i64 (elT b r la lv at_ s)) (v := .int .i64 (elT b r la lv at_ s)) hF (by kernel_rfl) (fun _ => by kernel_rfl) rfl fun a hF => ?_
                refine eQL 51 3 0 (v := .agg #[.int .i64 (elT b r la lv at_ s), .int .i64 (elL b r la lv at_ s)]) hF (by kernel_rfl) rfl rfl (by kernel_rfl) (by kernel_rfl) fun a hF => ?_
                refine eQ 8 (v0 := .int .i64 (elT b r la lv at_ s)) (v := .int .i64 (elT b r la lv at_ s)) hF (by kernel_rfl) (fun _ => by kernel_rfl) rfl fun a hF => ?_
                refine wpQuiet_nil ?_
                intro w hM
                refine wl (sStore (i := 3) (off := 0) (cs' := #[.int .i64 (elT b r la lv at_ s), .int .i64 (elL b r la lv at_ s)]) hF hM (by kernel_rfl) rfl rfl (by kernel_rfl) (by kernel_rfl) rfl (by kernel_rfl) fun w hM => ?_)
                refine sB 1 [(10, .int .i64 0)] hF (by kernel_rfl) fun a hF => ?_
                refine wpList_nil ?_
                refine hK18 _ _ ?_
                refine wp_ret ?_
                refine hR0 _ _ ?_
                refine ret_of hF hM (.tmp rfl (.cell (i := 3) rfl rfl (v := .agg #[.int .i64 (elT b r la lv at_ s), .int .i64 (elL b r la lv at_ s)]) (by kernel_rfl) (.tmp rfl (.nil)))) ?_
                have hd := se_0 (at_ := at_) (s := s) hz1 (by omega) (by omega) (by omega)
                exact ⟨ret_eq (by rw [hd.1, hd.2.1, hd.2.2]; rfl), hM.bel⟩
  · skip
    replace hF := hF.c hF (i := 16) (v := .bool true) rfl (nF hz1)
    refine cT hF (by kernel_rfl) (by kernel_rfl) ?_
    refine wp_seq_k fun K19 hK19 => ?_
    refine wp_region_lit ?_
    refine sB 3 [(17, .agg #[.int .i64 0, .int .i64 0]), (18, .int .i64 (skE b r la lv)), (8, .int .i64 0)] hF (by kernel_rfl) fun a hF => ?_
    refine wl (sStore (i := 3) (off := 0) (cs' := #[.int .i64 0, .int .i64 0]) hF hM (by kernel_rfl) rfl rfl (by kernel_rfl) (by kernel_rfl) rfl (by kernel_rfl) fun w hM => ?_)
    refine sB 1 [(10, .int .i64 (skE b r la lv))] hF (by kernel_rfl) fun a hF => ?_
    refine wpList_nil ?_
    refine hK19 _ _ ?_
    refine wp_ret ?_
    refine hR0 _ _ ?_
    refine ret_of hF hM (.tmp rfl (.cell (i := 3) rfl rfl (v := .agg #[.int .i64 0, .int .i64 0]) (by kernel_rfl) (.tmp rfl (.nil)))) ?_
    have hd := se_sk (at_ := at_) (s := s) hz1
    exact ⟨ret_eq (by rw [hd.1, hd.2.1, hd.2.2]; rfl), hM.bel⟩

theorem rLevel_w (b r la lv t : Int) (w0 : World) (h : 1 ≤ b ∧ b ≤ 1048576 ∧ 1 ≤ r ∧ r ≤ 2097152 ∧ 0 ≤ lv ∧ lv ≤ 1099511627776 ∧ la ≤ t ∧ t - la ≤ 2199023255552 ∧ 0 ≤ la ∧ la ≤ 1099511627776) :
    Calls Try.prog 29 #[.agg #[.int .i64 b, .int .i64 r], .agg #[.int .i64 la, .int .i64 lv], .int .i64 t] w0 (Ret w0 (.int .i64 (up b r lv (t - la)))) := by
  refine enterK 21 Try.func29 rfl rfl rfl ?_
  intro a hF Q0 hR0 hN0
  have hM := Mem.start w0
  refine wp_seq_k fun K1 hK1 => ?_
  refine wp_region_lit ?_
  refine wl (eN 3 1 (t := 23) (fun b => .pointer (some ⟨b, 0, none⟩)) #[.int .i64 b, .int .i64 r] hF hM (by kernel_rfl) (fun _ => by kernel_rfl) fun bb1 a w hF hM => ?_)
  refine wl (eN 4 2 (t := 29) (fun b => .pointer (some ⟨b, 0, none⟩)) #[.int .i64 la, .int .i64 lv] hF hM (by kernel_rfl) (fun _ => by kernel_rfl) fun bb2 a w hF hM => ?_)
  refine sB 1 [(6, .int .i64 0)] hF (by kernel_rfl) fun a hF => ?_
  refine wpList_nil ?_
  refine hK1 _ _ ?_
  refine wp_seq_k fun K2 hK2 => ?_
  refine wp_region_lit ?_
  refine sB 1 [(7, .pointer (some ⟨bb1, 0, none⟩))] hF (by kernel_rfl) fun a hF => ?_
  refine wl (eL 8 1 0 (v := .int .i64 b) hF hM (by kernel_rfl) rfl rfl (by kernel_rfl) (by kernel_rfl) fun a w hF hM => ?_)
  refine wl (eP 9 (v0 := .int .i64 (IntKind.i64.wrap (b * 1048576))) (v := .int .i64 (b * 1048576)) hF (by kernel_rfl) (fun _ => by kernel_rfl) (wi (by omega)) fun a hF => ?_)
  refine sB 1 [(10, .pointer (some ⟨bb2, 1, none⟩))] hF (by kernel_rfl) fun a hF => ?_
  refine wl (eL 11 2 1 (v := .int .i64 lv) hF hM (by kernel_rfl) rfl rfl (by kernel_rfl) (by kernel_rfl) fun a w hF hM => ?_)
  refine sB 1 [(12, .pointer (some ⟨bb1, 1, none⟩))] hF (by kernel_rfl) fun a hF => ?_
  refine wl (eL 13 1 1 (v := .int .i64 r) hF hM (by kernel_rfl) rfl rfl (by kernel_rfl) (by kernel_rfl) fun a w hF hM => ?_)
  refine sB 2 [(14, .int .i64 t), (15, .pointer (some ⟨bb2, 0, none⟩))] hF (by kernel_rfl) fun a hF => ?_
  refine wl (eL 16 2 0 (v := .int .i64 la) hF hM (by kernel_rfl) rfl rfl (by kernel_rfl) (by kernel_rfl) fun a w hF hM => ?_)
  refine wl (eP 17 (v0 := .int .i64 (IntKind.i64.wrap (t - la))) (v := .int .i64 (t - la)) hF (by kernel_rfl) (fun _ => by kernel_rfl) (wi (by omega)) fun a hF => ?_)
  have hz1 : 0 ≤ r * (t - la) ∧ r * (t - la) ≤ 4611686018427387904 := mul_bd (1) (2097152) (0) (2199023255552) (by omega) (by omega) (by omega) (by omega) (by decide)
  refine wl (eP 18 (v0 := .int .i64 (IntKind.i64.wrap (r * (t - la)))) (v := .int .i64 (r * (t - la))) hF (by kernel_rfl) (fun _ => by kernel_rfl) (wi (by omega)) fun a hF => ?_)
  refine wl (eP 19 (v0 := .int .i64 (IntKind.i64.wrap (lv + r * (t - la)))) (v := .int .i64 (lv + r * (t - la))) hF (by kernel_rfl) (fun _ => by kernel_rfl) (wi (by omega)) fun a hF => ?_)
  refine wl (eP 20 (v0 := .int .i64 (if lv + r * (t - la) < b * 1048576 then lv + r * (t - la) else b * 1048576)) (v := .int .i64 (min (b * 1048576) (lv + r * (t - la)))) hF (by kernel_rfl) (fun _ => by kernel_rfl) (vi (min_if _ _)) fun a hF => ?_)
  refine sB 1 [(6, .int .i64 (min (b * 1048576) (lv + r * (t - la))))] hF (by kernel_rfl) fun a hF => ?_
  refine wpList_nil ?_
  refine hK2 _ _ ?_
  refine wp_ret ?_
  refine hR0 _ _ ?_
  refine ret_of hF hM (.tmp rfl (.nil)) ?_
  exact ⟨ret_int rfl, hM.bel⟩

theorem rCeil4_w (n d : Int) (w0 : World) (h : 0 ≤ n ∧ n ≤ 6917529027641081856 ∧ 1 ≤ d ∧ d ≤ 4398046511104) :
    Calls Try.prog 30 #[.int .i64 n, .int .i64 d] w0 (Ret w0 (.int .i64 (cq n d))) := by
  have hc := cq_ref (n := n) (d := d) (by omega)
  have hm := Int.ediv_mul_le n (show d ≠ 0 by omega)
  have hp := Int.mul_nonneg (Int.ediv_nonneg h.1 (show 0 ≤ d by omega)) (show 0 ≤ d by omega)
  have hn := Int.ediv_nonneg h.1 (show 0 ≤ d by omega)
  have hl := ediv_le_self_of (p := n) (q := d) (by omega) (by omega)
  refine enterK 17 Try.func30 rfl rfl rfl ?_
  intro a hF Q0 hR0 hN0
  have hM := Mem.start w0
  refine wp_seq_k fun K1 hK1 => ?_
  refine wp_region_lit ?_
  refine sB 1 [(4, .int .i64 0)] hF (by kernel_rfl) fun a hF => ?_
  refine wpList_nil ?_
  refine hK1 _ _ ?_
  refine wp_seq_k fun K2 hK2 => ?_
  refine wp_region_lit ?_
  refine sB 2 [(6, .int .i64 n), (7, .int .i64 d)] hF (by kernel_rfl) fun a hF => ?_
  refine wl (eM 8 (v := .int .i64 (n / d)) hF hM (by kernel_rfl) (yld_quo n d hF rfl (by kernel_rfl) (by kernel_rfl) (by kernel_rfl) (by omega) (qpos_i64 (by omega) (by omega) (by omega))) fun a w hF hM => ?_)
  have := ediv_le_self_of (p := n) (q := d) (by omega) (by omega)
  refine sB 1 [(5, .int .i64 (n / d))] hF (by kernel_rfl) fun a hF => ?_
  refine wpList_nil ?_
  refine hK2 _ _ ?_
  refine wp_seq_k fun K3 hK3 => ?_
  refine wp_seq_k fun K4 hK4 => ?_
  refine wp_region_lit ?_
  refine sB 2 [(9, .int .i64 (n / d)), (10, .int .i64 d)] hF (by kernel_rfl) fun a hF => ?_
  refine wl (eP 11 (v0 := .int .i64 (IntKind.i64.wrap (n / d * d))) (v := .int .i64 (n / d * d)) hF (by kernel_rfl) (fun _ => by kernel_rfl) (wi (by omega)) fun a hF => ?_)
  refine sB 2 [(12, .int .i64 n), (13, .bool (decide (n / d * d < n)))] hF (by kernel_rfl) fun a hF => ?_
  refine wpList_nil ?_
  refine hK4 _ _ ?_
  by_cases hz1 : n / d * d < n
  · skip
    replace hF := hF.c hF (i := 13) (v := .bool true) rfl (bT hz1)
    refine cT hF (by kernel_rfl) (by kernel_rfl) ?_
    refine wp_region_lit ?_
    refine sB 1 [(14, .int .i64 (n / d))] hF (by kernel_rfl) fun a hF => ?_
    refine wl (eP 15 (v0 := .int .i64 (IntKind.i64.wrap (n / d + 1))) (v := .int .i64 (n / d + 1)) hF (by kernel_rfl) (fun _ => by kernel_rfl) (wi (by omega)) fun a hF => ?_)
    refine sB 1 [(5, .int .i64 (n / d + 1))] hF (by kernel_rfl) fun a hF => ?_
    refine wpList_nil ?_
    refine hK3 _ _ ?_
    refine wp_seq_k fun K5 hK5 => ?_
    refine wp_region_lit ?_
    refine sB 2 [(16, .int .i64 (n / d + 1)), (4, .int .i64 (n / d + 1))] hF (by kernel_rfl) fun a hF => ?_
    refine wpList_nil ?_
    refine hK5 _ _ ?_
    refine wp_ret ?_
    refine hR0 _ _ ?_
    refine ret_of hF hM (.tmp rfl (.nil)) ?_
    exact ⟨ret_int (hc.1 (by omega)), hM.bel⟩
  · skip
    replace hF := hF.c hF (i := 13) (v := .bool false) rfl (bF hz1)
    refine cF hF (by kernel_rfl) (by kernel_rfl) ?_
    refine wp_skip ?_
    refine hK3 _ _ ?_
    refine wp_seq_k fun K6 hK6 => ?_
    refine wp_region_lit ?_
    refine sB 2 [(16, .int .i64 (n / d)), (4, .int .i64 (n / d))] hF (by kernel_rfl) fun a hF => ?_
    refine wpList_nil ?_
    refine hK6 _ _ ?_
    refine wp_ret ?_
    refine hR0 _ _ ?_
    refine ret_of hF hM (.tmp rfl (.nil)) ?_
    exact ⟨ret_int (hc.2 (by omega)), hM.bel⟩

theorem rElig34_w (b r la lv at_ s : Int) (w0 : World) :
    Calls Try.prog 15 #[.agg #[.int .i64 b, .int .i64 r], .agg #[.int .i64 la, .int .i64 lv], .int .i64 at_, .int .i64 s] w0 (Ret w0 (.tuple #[.int .i64 (seT b r la lv at_ s), .agg #[.int .i64 (seT b r la lv at_ s), .int .i64 (seL b r la lv at_ s)], .int .i64 (seE b r la lv at_ s)])) := by
  refine enterK 73 Try.func15 rfl rfl rfl ?_
  intro a hF Q0 hR0 hN0
  have hM := Mem.start w0
  refine wp_seq_k fun K1 hK1 => ?_
  refine wp_region_lit ?_
  refine wl (eN 4 1 (t := 23) (fun b => .pointer (some ⟨b, 0, none⟩)) #[.int .i64 b, .int .i64 r] hF hM (by kernel_rfl) (fun _ => by kernel_rfl) fun bb1 a w hF hM => ?_)
  refine wl (eN 5 2 (t := 29) (fun b => .pointer (some ⟨b, 0, none⟩)) #[.int .i64 la, .int .i64 lv] hF hM (by kernel_rfl) (fun _ => by kernel_rfl) fun bb2 a w hF hM => ?_)
  refine sB 1 [(8, .int .i64 0)] hF (by kernel_rfl) fun a hF => ?_
  refine wl (eN 9 3 (t := 29) (fun b => .pointer (some ⟨b, 0, none⟩)) #[.int .i64 0, .int .i64 0] hF hM (by kernel_rfl) (fun _ => by kernel_rfl) fun bb3 a w hF hM => ?_)
  refine sB 1 [(10, .int .i64 0)] hF (by kernel_rfl) fun a hF => ?_
  refine wpList_nil ?_
  refine hK1 _ _ ?_
  refine wp_seq_k fun K2 hK2 => ?_
  refine wp_region_lit ?_
  refine wl (eL 14 1 0 (v := .agg #[.int .i64 b, .int .i64 r]) hF hM (by kernel_rfl) rfl rfl (by kernel_rfl) (by kernel_rfl) fun a w hF hM => ?_)
  refine wl (eL 15 2 0 (v := .agg #[.int .i64 la, .int .i64 lv]) hF hM (by kernel_rfl) rfl rfl (by kernel_rfl) (by kernel_rfl) fun a w hF hM => ?_)
  refine wl (eM 16 (v := .int .i64 (skE b r la lv)) hF hM (by kernel_rfl) (yld_call (f := 13) (args := #[.agg #[.int .i64 b, .int .i64 r], .agg #[.int .i64 la, .int .i64 lv]]) hF (by kernel_rfl) (fun _ => by kernel_rfl) (fun w hM => rCheck34_w b r la lv w)) fun a w hF hM => ?_)
  refine sB 1 [(11, .int .i64 (skE b r la lv))] hF (by kernel_rfl) fun a hF => ?_
  refine wpList_nil ?_
  refine hK2 _ _ ?_
  refine wp_seq_k fun K3 hK3 => ?_
  refine wp_seq_k fun K4 hK4 => ?_
  refine wp_region_lit ?_
  refine sB 2 [(17, .int .i64 (skE b r la lv)), (18, .bool (!decide (skE b r la lv = 0)))] hF (by kernel_rfl) fun a hF => ?_
  refine wpList_nil ?_
  refine hK4 _ _ ?_
  by_cases hz1 : skE b r la lv = 0
  · skip
    have hz2 := sk_bd hz1
    replace hF := hF.c hF (i := 18) (v := .bool false) rfl (nT hz1)
    refine cF hF (by kernel_rfl) (by kernel_rfl) ?_
    refine wp_skip ?_
    refine hK3 _ _ ?_
    refine wp_seq_k fun K5 hK5 => ?_
    refine wp_seq_k fun K6 hK6 => ?_
    by_cases hz3 : at_ < 0
    · skip
      refine wp_region_lit ?_
      refine sB 1 [(21, .int .i64 at_)] hF (by kernel_rfl) fun a hF => ?_
      refine wl (eP 22 (v0 := .bool (decide (at_ < 0))) (v := .bool true) hF (by kernel_rfl) (fun _ => by kernel_rfl) (bT hz3) fun a hF => ?_)
      refine sB 12 [(23, .bool true), (24, undef), (25, undef), (26, .bool true), (27, .bool true), (28, undef), (29, undef), (30, .bool true), (31, .bool true), (32, undef), (33, undef), (34, .bool true)] hF (by kernel_rfl) fun a hF => ?_
      refine wpList_nil ?_
      refine hK6 _ _ ?_
      refine cT hF (by kernel_rfl) (by kernel_rfl) ?_
      refine wp_seq_k fun K7 hK7 => ?_
      refine wp_region_lit ?_
      refine sB 2 [(35, .agg #[.int .i64 0, .int .i64 0]), (8, .int .i64 0)] hF (by kernel_rfl) fun a hF => ?_
      refine wl (sStore (i := 3) (off := 0) (cs' := #[.int .i64 0, .int .i64 0]) hF hM (by kernel_rfl) rfl rfl (by kernel_rfl) (by kernel_rfl) rfl (by kernel_rfl) fun w hM => ?_)
      refine sB 1 [(10, .int .i64 2)] hF (by kernel_rfl) fun a hF => ?_
      refine wpList_nil ?_
      refine hK7 _ _ ?_
      refine wp_ret ?_
      refine hR0 _ _ ?_
      refine ret_of hF hM (.tmp rfl (.cell (i := 3) rfl rfl (v := .agg #[.int .i64 0, .int .i64 0]) (by kernel_rfl) (.tmp rfl (.nil)))) ?_
      have hd := se_2 (at_ := at_) (s := s) hz1 (by omega)
      exact ⟨ret_eq (by rw [hd.1, hd.2.1, hd.2.2]; rfl), hM.bel⟩
    · skip
      by_cases hz4 : 1099511627776 < at_
      · skip
        refine wp_region_lit ?_
        refine sB 1 [(21, .int .i64 at_)] hF (by kernel_rfl) fun a hF => ?_
        refine wl (eP 22 (v0 := .bool (decide (at_ < 0))) (v := .bool false) hF (by kernel_rfl) (fun _ => by kernel_rfl) (bF hz3) fun a hF => ?_)
        refine sB 2 [(23, .bool false), (24, .int .i64 at_)] hF (by kernel_rfl) fun a hF => ?_
        refine wl (eP 25 (v0 := .bool (decide (1099511627776 < at_))) (v := .bool true) hF (by kernel_rfl) (fun _ => by kernel_rfl) (bT hz4) fun a hF => ?_)
        refine sB 9 [(26, .bool true), (27, .bool true), (28, undef), (29, undef), (30, .bool true), (31, .bool true), (32, undef), (33, undef), (34, .bool true)] hF (by kernel_rfl) fun a hF => ?_
        refine wpList_nil ?_
        refine hK6 _ _ ?_
        refine cT hF (by kernel_rfl) (by kernel_rfl) ?_
        refine wp_seq_k fun K8 hK8 => ?_
        refine wp_region_lit ?_
        refine sB 2 [(35, .agg #[.int .i64 0, .int .i64 0]), (8, .int .i64 0)] hF (by kernel_rfl) fun a hF => ?_
        refine wl (sStore (i := 3) (off := 0) (cs' := #[.int .i64 0, .int .i64 0]) hF hM (by kernel_rfl) rfl rfl (by kernel_rfl) (by kernel_rfl) rfl (by kernel_rfl) fun w hM => ?_)
        refine sB 1 [(10, .int .i64 2)] hF (by kernel_rfl) fun a hF => ?_
        refine wpList_nil ?_
        refine hK8 _ _ ?_
        refine wp_ret ?_
        refine hR0 _ _ ?_
        refine ret_of hF hM (.tmp rfl (.cell (i := 3) rfl rfl (v := .agg #[.int .i64 0, .int .i64 0]) (by kernel_rfl) (.tmp rfl (.nil)))) ?_
        have hd := se_2 (at_ := at_) (s := s) hz1 (by omega)
        exact ⟨ret_eq (by rw [hd.1, hd.2.1, hd.2.2]; rfl), hM.bel⟩
      · skip
        by_cases hz5 : s < 1
        · skip
          refine wp_region_lit ?_
          refine sB 1 [(21, .int .i64 at_)] hF (by kernel_rfl) fun a hF => ?_
          refine wl (eP 22 (v0 := .bool (decide (at_ < 0))) (v := .bool false) hF (by kernel_rfl) (fun _ => by kernel_rfl) (bF hz3) fun a hF => ?_)
          refine sB 2 [(23, .bool false), (24, .int .i64 at_)] hF (by kernel_rfl) fun a hF => ?_
          refine wl (eP 25 (v0 := .bool (decide (1099511627776 < at_))) (v := .bool false) hF (by kernel_rfl) (fun _ => by kernel_rfl) (bF hz4) fun a hF => ?_)
          refine sB 3 [(26, .bool false), (27, .bool false), (28, .int .i64 s)] hF (by kernel_rfl) fun a hF => ?_
          refine wl (eP 29 (v0 := .bool (decide (s < 1))) (v := .bool true) hF (by kernel_rfl) (fun _ => by kernel_rfl) (bT hz5) fun a hF => ?_)
          refine sB 5 [(30, .bool true), (31, .bool true), (32, undef), (33, undef), (34, .bool true)] hF (by kernel_rfl) fun a hF => ?_
          refine wpList_nil ?_
          refine hK6 _ _ ?_
          refine cT hF (by kernel_rfl) (by kernel_rfl) ?_
          refine wp_seq_k fun K9 hK9 => ?_
          refine wp_region_lit ?_
          refine sB 2 [(35, .agg #[.int .i64 0, .int .i64 0]), (8, .int .i64 0)] hF (by kernel_rfl) fun a hF => ?_
          refine wl (sStore (i := 3) (off := 0) (cs' := #[.int .i64 0, .int .i64 0]) hF hM (by kernel_rfl) rfl rfl (by kernel_rfl) (by kernel_rfl) rfl (by kernel_rfl) fun w hM => ?_)
          refine sB 1 [(10, .int .i64 2)] hF (by kernel_rfl) fun a hF => ?_
          refine wpList_nil ?_
          refine hK9 _ _ ?_
          refine wp_ret ?_
          refine hR0 _ _ ?_
          refine ret_of hF hM (.tmp rfl (.cell (i := 3) rfl rfl (v := .agg #[.int .i64 0, .int .i64 0]) (by kernel_rfl) (.tmp rfl (.nil)))) ?_
          have hd := se_2 (at_ := at_) (s := s) hz1 (by omega)
          exact ⟨ret_eq (by rw [hd.1, hd.2.1, hd.2.2]; rfl), hM.bel⟩
        · skip
          refine wp_region_lit ?_
          refine sB 1 [(21, .int .i64 at_)] hF (by kernel_rfl) fun a hF => ?_
          refine wl (eP 22 (v0 := .bool (decide (at_ < 0))) (v := .bool false) hF (by kernel_rfl) (fun _ => by kernel_rfl) (bF hz3) fun a hF => ?_)
          refine sB 2 [(23, .bool false), (24, .int .i64 at_)] hF (by kernel_rfl) fun a hF => ?_
          refine wl (eP 25 (v0 := .bool (decide (1099511627776 < at_))) (v := .bool false) hF (by kernel_rfl) (fun _ => by kernel_rfl) (bF hz4) fun a hF => ?_)
          refine sB 3 [(26, .bool false), (27, .bool false), (28, .int .i64 s)] hF (by kernel_rfl) fun a hF => ?_
          refine wl (eP 29 (v0 := .bool (decide (s < 1))) (v := .bool false) hF (by kernel_rfl) (fun _ => by kernel_rfl) (bF hz5) fun a hF => ?_)
          refine sB 5 [(30, .bool false), (31, .bool false), (32, .int .i64 s), (33, .bool (decide (1048576 < s))), (34, .bool (decide (1048576 < s)))] hF (by kernel_rfl) fun a hF => ?_
          refine wpList_nil ?_
          refine hK6 _ _ ?_
          by_cases hz6 : 1048576 < s
          · skip
            replace hF := hF.c hF (i := 33) (v := .bool true) rfl (bT hz6)
            replace hF := hF.c hF (i := 34) (v := .bool true) rfl (bT hz6)
            refine cT hF (by kernel_rfl) (by kernel_rfl) ?_
            refine wp_seq_k fun K10 hK10 => ?_
            refine wp_region_lit ?_
            refine sB 2 [(35, .agg #[.int .i64 0, .int .i64 0]), (8, .int .i64 0)] hF (by kernel_rfl) fun a hF => ?_
            refine wl (sStore (i := 3) (off := 0) (cs' := #[.int .i64 0, .int .i64 0]) hF hM (by kernel_rfl) rfl rfl (by kernel_rfl) (by kernel_rfl) rfl (by kernel_rfl) fun w hM => ?_)
            refine sB 1 [(10, .int .i64 2)] hF (by kernel_rfl) fun a hF => ?_
            refine wpList_nil ?_
            refine hK10 _ _ ?_
            refine wp_ret ?_
            refine hR0 _ _ ?_
            refine ret_of hF hM (.tmp rfl (.cell (i := 3) rfl rfl (v := .agg #[.int .i64 0, .int .i64 0]) (by kernel_rfl) (.tmp rfl (.nil)))) ?_
            have hd := se_2 (at_ := at_) (s := s) hz1 (by omega)
            exact ⟨ret_eq (by rw [hd.1, hd.2.1, hd.2.2]; rfl), hM.bel⟩
          · skip
            replace hF := hF.c hF (i := 33) (v := .bool false) rfl (bF hz6)
            replace hF := hF.c hF (i := 34) (v := .bool false) rfl (bF hz6)
            refine cF hF (by kernel_rfl) (by kernel_rfl) ?_
            refine wp_skip ?_
            refine hK5 _ _ ?_
            refine wp_seq_k fun K11 hK11 => ?_
            refine wp_seq_k fun K12 hK12 => ?_
            refine wp_region_lit ?_
            refine sB 2 [(36, .int .i64 s), (37, .pointer (some ⟨bb1, 0, none⟩))] hF (by kernel_rfl) fun a hF => ?_
            refine wl (eL 38 1 0 (v := .int .i64 b) hF hM (by kernel_rfl) rfl rfl (by kernel_rfl) (by kernel_rfl) fun a w hF hM => ?_)
            refine sB 1 [(39, .bool (decide (b < s)))] hF (by kernel_rfl) fun a hF => ?_
            refine wpList_nil ?_
            refine hK12 _ _ ?_
            by_cases hz7 : b < s
            · skip
              replace hF := hF.c hF (i := 39) (v := .bool true) rfl (bT hz7)
              refine cT hF (by kernel_rfl) (by kernel_rfl) ?_
              refine wp_seq_k fun K13 hK13 => ?_
              refine wp_region_lit ?_
              refine sB 2 [(40, .agg #[.int .i64 0, .int .i64 0]), (8, .int .i64 0)] hF (by kernel_rfl) fun a hF => ?_
              refine wl (sStore (i := 3) (off := 0) (cs' := #[.int .i64 0, .int .i64 0]) hF hM (by kernel_rfl) rfl rfl (by kernel_rfl) (by kernel_rfl) rfl (by kernel_rfl) fun w hM => ?_)
              refine sB 1 [(10, .int .i64 4)] hF (by kernel_rfl) fun a hF => ?_
              refine wpList_nil ?_
              refine hK13 _ _ ?_
              refine wp_ret ?_
              refine hR0 _ _ ?_
              refine ret_of hF hM (.tmp rfl (.cell (i := 3) rfl rfl (v := .agg #[.int .i64 0, .int .i64 0]) (by kernel_rfl) (.tmp rfl (.nil)))) ?_
              have hd := se_4 (at_ := at_) (s := s) hz1 (by omega) (by omega)
              exact ⟨ret_eq (by rw [hd.1, hd.2.1, hd.2.2]; rfl), hM.bel⟩
            · skip
              replace hF := hF.c hF (i := 39) (v := .bool false) rfl (bF hz7)
              refine cF hF (by kernel_rfl) (by kernel_rfl) ?_
              refine wp_skip ?_
              refine hK11 _ _ ?_
              refine wp_seq_k fun K14 hK14 => ?_
              refine wp_region_lit ?_
              refine sB 2 [(41, .int .i64 at_), (42, .pointer (some ⟨bb2, 0, none⟩))] hF (by kernel_rfl) fun a hF => ?_
              refine wl (eL 43 2 0 (v := .int .i64 la) hF hM (by kernel_rfl) rfl rfl (by kernel_rfl) (by kernel_rfl) fun a w hF hM => ?_)
              refine wl (eP 44 (v0 := .int .i64 (if la > at_ then la else at_)) (v := .int .i64 (max at_ la)) hF (by kernel_rfl) (fun _ => by kernel_rfl) (vi (max_if _ _)) fun a hF => ?_)
              refine sB 1 [(12, .int .i64 (max at_ la))] hF (by kernel_rfl) fun a hF => ?_
              refine wpList_nil ?_
              refine hK14 _ _ ?_
              refine wp_seq_k fun K15 hK15 => ?_
              refine wp_region_lit ?_
              refine sB 1 [(45, .int .i64 s)] hF (by kernel_rfl) fun a hF => ?_
              refine wl (eP 46 (v0 := .int .i64 (IntKind.i64.wrap (s * 1048576))) (v := .int .i64 (s * 1048576)) hF (by kernel_rfl) (fun _ => by kernel_rfl) (wi (by omega)) fun a hF => ?_)
              refine wl (eL 47 1 0 (v := .agg #[.int .i64 b, .int .i64 r]) hF hM (by kernel_rfl) rfl rfl (by kernel_rfl) (by kernel_rfl) fun a w hF hM => ?_)
              refine wl (eL 48 2 0 (v := .agg #[.int .i64 la, .int .i64 lv]) hF hM (by kernel_rfl) rfl rfl (by kernel_rfl) (by kernel_rfl) fun a w hF hM => ?_)
              refine sB 1 [(49, .int .i64 (max at_ la))] hF (by kernel_rfl) fun a hF => ?_
              refine wl (eM 50 (v := .int .i64 (up b r lv (max at_ la - la))) hF hM (by kernel_rfl) (yld_call (f := 29) (args := #[.agg #[.int .i64 b, .int .i64 r], .agg #[.int .i64 la, .int .i64 lv], .int .i64 (max at_ la)]) hF (by kernel_rfl) (fun _ => by kernel_rfl) (fun w hM => rLevel_w b r la lv (max at_ la) w (by omega))) fun a w hF hM => ?_)
              have := up_bd (b := b) (r := r) (n := lv) (t := max at_ la - la) (by omega) (by omega) (by omega) (by omega)
              refine wl (eP 51 (v0 := .int .i64 (IntKind.i64.wrap (s * 1048576 - up b r lv (max at_ la - la)))) (v := .int .i64 (s * 1048576 - up b r lv (max at_ la - la))) hF (by kernel_rfl) (fun _ => by kernel_rfl) (wi (by omega)) fun a hF => ?_)
              refine sB 1 [(13, .int .i64 (s * 1048576 - up b r lv (max at_ la - la)))] hF (by kernel_rfl) fun a hF => ?_
              refine wpList_nil ?_
              refine hK15 _ _ ?_
              refine wp_seq_k fun K16 hK16 => ?_
              refine wp_seq_k fun K17 hK17 => ?_
              refine wp_region_lit ?_
              refine sB 2 [(52, .int .i64 (s * 1048576 - up b r lv (max at_ la - la))), (53, .bool (decide (0 < s * 1048576 - up b r lv (max at_ la - la))))] hF (by kernel_rfl) fun a hF => ?_
              refine wpList_nil ?_
              refine hK17 _ _ ?_
              by_cases hz8 : 0 < s * 1048576 - up b r lv (max at_ la - la)
              · skip
                replace hF := hF.c hF (i := 53) (v := .bool true) rfl (bT hz8)
                refine cT hF (by kernel_rfl) (by kernel_rfl) ?_
                refine wp_region_lit ?_
                refine sB 3 [(54, .int .i64 (max at_ la)), (55, .int .i64 (s * 1048576 - up b r lv (max at_ la - la))), (56, .pointer (some ⟨bb1, 1, none⟩))] hF (by kernel_rfl) fun a hF => ?_
                refine wl (eL 57 1 1 (v := .int .i64 r) hF hM (by kernel_rfl) rfl rfl (by kernel_rfl) (by kernel_rfl) fun a w hF hM => ?_)
                refine wl (eM 58 (v := .int .i64 (cq (s * 1048576 - up b r lv (max at_ la - la)) r)) hF hM (by kernel_rfl) (yld_call (f := 30) (args := #[.int .i64 (s * 1048576 - up b r lv (max at_ la - la)), .int .i64 r]) hF (by kernel_rfl) (fun _ => by kernel_rfl) (fun w hM => rCeil4_w (s * 1048576 - up b r lv (max at_ la - la)) r w (by omega))) fun a w hF hM => ?_)
                have := cq_in (n := s * 1048576 - up b r lv (max at_ la - la)) (d := r) (B := 1099511627776) (by omega) (by omega) (by omega)
                refine wl (eP 59 (v0 := .int .i64 (IntKind.i64.wrap (max at_ la + cq (s * 1048576 - up b r lv (max at_ la - la)) r))) (v := .int .i64 (max at_ la + cq (s * 1048576 - up b r lv (max at_ la - la)) r)) hF (by kernel_rfl) (fun _ => by kernel_rfl) (wi (by omega)) fun a hF => ?_)
                refine sB 1 [(12, .int .i64 (max at_ la + cq (s * 1048576 - up b r lv (max at_ la - la)) r))] hF (by kernel_rfl) fun a hF => ?_
                refine wpList_nil ?_
                refine hK16 _ _ ?_
                refine wp_seq_k fun K18 hK18 => ?_
                refine wp_seq_k fun K19 hK19 => ?_
                have hel := el_bd (at_ := at_) (s := s) hz1 (by omega) (by omega)
                have hew : elW b r la lv at_ s = s * 1048576 - up b r lv (max at_ la - la) := by unfold elW; omega
                have het : elT b r la lv at_ s = max at_ la + cq (s * 1048576 - up b r lv (max at_ la - la)) r := by unfold elT; rw [hew]
                refine wp_region_lit ?_
                refine sB 2 [(60, .int .i64 (max at_ la + cq (s * 1048576 - up b r lv (max at_ la - la)) r)), (61, .bool (decide (1099511627776 < max at_ la + cq (s * 1048576 - up b r lv (max at_ la - la)) r)))] hF (by kernel_rfl) fun a hF => ?_
                refine wpList_nil ?_
                refine hK19 _ _ ?_
                by_cases hz9 : 1099511627776 < max at_ la + cq (s * 1048576 - up b r lv (max at_ la - la)) r
                · skip
                  replace hF := hF.c hF (i := 61) (v := .bool true) rfl (bT hz9)
                  refine cT hF (by kernel_rfl) (by kernel_rfl) ?_
                  refine wp_seq_k fun K20 hK20 => ?_
                  refine wp_region_lit ?_
                  refine sB 2 [(62, .agg #[.int .i64 0, .int .i64 0]), (8, .int .i64 0)] hF (by kernel_rfl) fun a hF => ?_
                  refine wl (sStore (i := 3) (off := 0) (cs' := #[.int .i64 0, .int .i64 0]) hF hM (by kernel_rfl) rfl rfl (by kernel_rfl) (by kernel_rfl) rfl (by kernel_rfl) fun w hM => ?_)
                  refine sB 1 [(10, .int .i64 6)] hF (by kernel_rfl) fun a hF => ?_
                  refine wpList_nil ?_
                  refine hK20 _ _ ?_
                  refine wp_ret ?_
                  refine hR0 _ _ ?_
                  refine ret_of hF hM (.tmp rfl (.cell (i := 3) rfl rfl (v := .agg #[.int .i64 0, .int .i64 0]) (by kernel_rfl) (.tmp rfl (.nil)))) ?_
                  have hd := se_6 (at_ := at_) (s := s) hz1 (by omega) (by omega) (by omega)
                  exact ⟨ret_eq (by rw [hd.1, hd.2.1, hd.2.2]; rfl), hM.bel⟩
                · skip
                  replace hF := hF.c hF (i := 61) (v := .bool false) rfl (bF hz9)
                  refine cF hF (by kernel_rfl) (by kernel_rfl) ?_
                  refine wp_skip ?_
                  refine hK18 _ _ ?_
                  refine wp_seq_k fun K21 hK21 => ?_
                  refine wp_region_lit ?_
                  refine sB 2 [(63, .int .i64 (max at_ la + cq (s * 1048576 - up b r lv (max at_ la - la)) r)), (64, .int .i64 (max at_ la + cq (s * 1048576 - up b r lv (max at_ la - la)) r))] hF (by kernel_rfl) fun a hF => ?_
                  refine wl (eL 65 1 0 (v := .agg #[.int .i64 b, .int .i64 r]) hF hM (by kernel_rfl) rfl rfl (by kernel_rfl) (by kernel_rfl) fun a w hF hM => ?_)
                  refine wl (eL 66 2 0 (v := .agg #[.int .i64 la, .int .i64 lv]) hF hM (by kernel_rfl) rfl rfl (by kernel_rfl) (by kernel_rfl) fun a w hF hM => ?_)
                  refine sB 1 [(67, .int .i64 (max at_ la + cq (s * 1048576 - up b r lv (max at_ la - la)) r))] hF (by kernel_rfl) fun a hF => ?_
                  refine wl (eM 68 (v := .int .i64 (up b r lv (max at_ la + cq (s * 1048576 - up b r lv (max at_ la - la)) r - la))) hF hM (by kernel_rfl) (yld_call (f := 29) (args := #[.agg #[.int .i64 b, .int .i64 r], .agg #[.int .i64 la, .int .i64 lv], .int .i64 (max at_ la + cq (s * 1048576 - up b r lv (max at_ la - la)) r)]) hF (by kernel_rfl) (fun _ => by kernel_rfl) (fun w hM => rLevel_w b r la lv (max at_ la + cq (s * 1048576 - up b r lv (max at_ la - la)) r) w (by omega))) fun a w hF hM => ?_)
                  have := up_bd (b := b) (r := r) (n := lv) (t := max at_ la + cq (s * 1048576 - up b r lv (max at_ la - la)) r - la) (by omega) (by omega) (by omega) (by omega)
                  refine sB 1 [(69, .int .i64 s)] hF (by kernel_rfl) fun a hF => ?_
                  refine wl (eP 70 (v0 := .int .i64 (IntKind.i64.wrap (s * 1048576))) (v := .int .i64 (s * 1048576)) hF (by kernel_rfl) (fun _ => by kernel_rfl) (wi (by omega)) fun a hF => ?_)
                  refine wl (eP 71 (v0 := .int .i64 (IntKind.i64.wrap (up b r lv (max at_ la + cq (s * 1048576 - up b r lv (max at_ la - la)) r - la) - s * 1048576))) (v := .int .i64 (up b r lv (max at_ la + cq (s * 1048576 - up b r lv (max at_ la - la)) r - la) - s * 1048576)) hF (by kernel_rfl) (fun _ => by kernel_rfl) (wi (by omega)) fun a hF => ?_)
                  refine sB 2 [(72, .agg #[.int .i64 (max at_ la + cq (s * 1048576 - up b r lv (max at_ la - la)) r), .int .i64 (up b r lv (max at_ la + cq (s * 1048576 - up b r lv (max at_ la - la)) r - la) - s * 1048576)]), (8, .int .i64 (max at_ la + cq (s * 1048576 - up b r lv (max at_ la - la)) r))] hF (by kernel_rfl) fun a hF => ?_
                  refine wl (sStore (i := 3) (off := 0) (cs' := #[.int .i64 (max at_ la + cq (s * 1048576 - up b r lv (max at_ la - la)) r), .int .i64 (up b r lv (max at_ la + cq (s * 1048576 - up b r lv (max at_ la - la)) r - la) - s * 1048576)]) hF hM (by kernel_rfl) rfl rfl (by kernel_rfl) (by kernel_rfl) rfl (by kernel_rfl) fun w hM => ?_)
                  refine sB 1 [(10, .int .i64 0)] hF (by kernel_rfl) fun a hF => ?_
                  refine wpList_nil ?_
                  refine hK21 _ _ ?_
                  refine wp_ret ?_
                  refine hR0 _ _ ?_
                  refine ret_of hF hM (.tmp rfl (.cell (i := 3) rfl rfl (v := .agg #[.int .i64 (max at_ la + cq (s * 1048576 - up b r lv (max at_ la - la)) r), .int .i64 (up b r lv (max at_ la + cq (s * 1048576 - up b r lv (max at_ la - la)) r - la) - s * 1048576)]) (by kernel_rfl) (.tmp rfl (.nil)))) ?_
                  have hd := se_0 (at_ := at_) (s := s) hz1 (by omega) (by omega) (by omega)
                  have hll : elL b r la lv at_ s = up b r lv (max at_ la + cq (s * 1048576 - up b r lv (max at_ la - la)) r - la) - s * 1048576 := by unfold elL; rw [het]
                  exact ⟨ret_eq (by rw [hd.1, hd.2.1, hd.2.2, het, hll]; rfl), hM.bel⟩
              · skip
                replace hF := hF.c hF (i := 53) (v := .bool false) rfl (bF hz8)
                refine cF hF (by kernel_rfl) (by kernel_rfl) ?_
                refine wp_skip ?_
                refine hK16 _ _ ?_
                refine wp_seq_k fun K22 hK22 => ?_
                refine wp_seq_k fun K23 hK23 => ?_
                have hel := el_bd (at_ := at_) (s := s) hz1 (by omega) (by omega)
                have hew : elW b r la lv at_ s = 0 := by unfold elW; omega
                have het : elT b r la lv at_ s = max at_ la := by unfold elT; rw [hew, cq_zero (by omega)]; omega
                refine wp_region_lit ?_
                refine sB 1 [(60, .int .i64 (max at_ la))] hF (by kernel_rfl) fun a hF => ?_
                refine wl (eP 61 (v0 := .bool (decide (1099511627776 < max at_ la))) (v := .bool false) hF (by kernel_rfl) (fun _ => by kernel_rfl) (bF (by omega)) fun a hF => ?_)
                refine wpList_nil ?_
                refine hK23 _ _ ?_
                refine cF hF (by kernel_rfl) (by kernel_rfl) ?_
                refine wp_skip ?_
                refine hK22 _ _ ?_
                refine wp_seq_k fun K24 hK24 => ?_
                refine wp_region_lit ?_
                refine sB 2 [(63, .int .i64 (max at_ la)), (64, .int .i64 (max at_ la))] hF (by kernel_rfl) fun a hF => ?_
                refine wl (eL 65 1 0 (v := .agg #[.int .i64 b, .int .i64 r]) hF hM (by kernel_rfl) rfl rfl (by kernel_rfl) (by kernel_rfl) fun a w hF hM => ?_)
                refine wl (eL 66 2 0 (v := .agg #[.int .i64 la, .int .i64 lv]) hF hM (by kernel_rfl) rfl rfl (by kernel_rfl) (by kernel_rfl) fun a w hF hM => ?_)
                refine sB 1 [(67, .int .i64 (max at_ la))] hF (by kernel_rfl) fun a hF => ?_
                refine wl (eM 68 (v := .int .i64 (up b r lv (max at_ la - la))) hF hM (by kernel_rfl) (yld_call (f := 29) (args := #[.agg #[.int .i64 b, .int .i64 r], .agg #[.int .i64 la, .int .i64 lv], .int .i64 (max at_ la)]) hF (by kernel_rfl) (fun _ => by kernel_rfl) (fun w hM => rLevel_w b r la lv (max at_ la) w (by omega))) fun a w hF hM => ?_)
                have := up_bd (b := b) (r := r) (n := lv) (t := max at_ la - la) (by omega) (by omega) (by omega) (by omega)
                refine sB 1 [(69, .int .i64 s)] hF (by kernel_rfl) fun a hF => ?_
                refine wl (eP 70 (v0 := .int .i64 (IntKind.i64.wrap (s * 1048576))) (v := .int .i64 (s * 1048576)) hF (by kernel_rfl) (fun _ => by kernel_rfl) (wi (by omega)) fun a hF => ?_)
                refine wl (eP 71 (v0 := .int .i64 (IntKind.i64.wrap (up b r lv (max at_ la - la) - s * 1048576))) (v := .int .i64 (up b r lv (max at_ la - la) - s * 1048576)) hF (by kernel_rfl) (fun _ => by kernel_rfl) (wi (by omega)) fun a hF => ?_)
                refine sB 2 [(72, .agg #[.int .i64 (max at_ la), .int .i64 (up b r lv (max at_ la - la) - s * 1048576)]), (8, .int .i64 (max at_ la))] hF (by kernel_rfl) fun a hF => ?_
                refine wl (sStore (i := 3) (off := 0) (cs' := #[.int .i64 (max at_ la), .int .i64 (up b r lv (max at_ la - la) - s * 1048576)]) hF hM (by kernel_rfl) rfl rfl (by kernel_rfl) (by kernel_rfl) rfl (by kernel_rfl) fun w hM => ?_)
                refine sB 1 [(10, .int .i64 0)] hF (by kernel_rfl) fun a hF => ?_
                refine wpList_nil ?_
                refine hK24 _ _ ?_
                refine wp_ret ?_
                refine hR0 _ _ ?_
                refine ret_of hF hM (.tmp rfl (.cell (i := 3) rfl rfl (v := .agg #[.int .i64 (max at_ la), .int .i64 (up b r lv (max at_ la - la) - s * 1048576)]) (by kernel_rfl) (.tmp rfl (.nil)))) ?_
                have hd := se_0 (at_ := at_) (s := s) hz1 (by omega) (by omega) (by omega)
                have hll : elL b r la lv at_ s = up b r lv (max at_ la - la) - s * 1048576 := by unfold elL; rw [het]
                exact ⟨ret_eq (by rw [hd.1, hd.2.1, hd.2.2, het, hll]; rfl), hM.bel⟩
  · skip
    replace hF := hF.c hF (i := 18) (v := .bool true) rfl (nF hz1)
    refine cT hF (by kernel_rfl) (by kernel_rfl) ?_
    refine wp_seq_k fun K25 hK25 => ?_
    refine wp_region_lit ?_
    refine sB 3 [(19, .agg #[.int .i64 0, .int .i64 0]), (20, .int .i64 (skE b r la lv)), (8, .int .i64 0)] hF (by kernel_rfl) fun a hF => ?_
    refine wl (sStore (i := 3) (off := 0) (cs' := #[.int .i64 0, .int .i64 0]) hF hM (by kernel_rfl) rfl rfl (by kernel_rfl) (by kernel_rfl) rfl (by kernel_rfl) fun w hM => ?_)
    refine sB 1 [(10, .int .i64 (skE b r la lv))] hF (by kernel_rfl) fun a hF => ?_
    refine wpList_nil ?_
    refine hK25 _ _ ?_
    refine wp_ret ?_
    refine hR0 _ _ ?_
    refine ret_of hF hM (.tmp rfl (.cell (i := 3) rfl rfl (v := .agg #[.int .i64 0, .int .i64 0]) (by kernel_rfl) (.tmp rfl (.nil)))) ?_
    have hd := se_sk (at_ := at_) (s := s) hz1
    exact ⟨ret_eq (by rw [hd.1, hd.2.1, hd.2.2]; rfl), hM.bel⟩

end Go.Proofs.Ytaekcgapbkmepaa
