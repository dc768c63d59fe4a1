/-
  The reference of shape.Run; fitting, conforms.
-/
import Derived.Test.YtaekcgapbkmepaaShapeD
import Derived.Test.YtaekcgapbkmepaaShapeLaws
import Derived.Test.YtaekcgapbkmepaaCfTrW
namespace Go.Proofs.Ytaekcgapbkmepaa
open Go.RowKit
set_option linter.unusedVariables false
set_option linter.unusedSimpArgs false

theorem sumN_at34 {l : List (Int × Int)} {i : Nat} (h : 0 < i) : sumN l i = sumN l (i - 1) + (pr l (i - 1)).2 := by
  obtain ⟨j, rfl⟩ : ∃ z : Nat, i = z + 1 := ⟨i - 1, by omega⟩
  rfl
theorem T_next {b r : Int} {l : List (Int × Int)} {k : Nat} (h : ∀ j, j < k → shT b r l j ≤ 1099511627776) (hk : shT b r l k ≤ 1099511627776) : ∀ j, j < k + 1 → shT b r l j ≤ 1099511627776 := fun j hj => by
  by_cases e : j = k
  · subst e; exact hk
  · exact h j (by omega)
theorem rRun34_ok (b r : Int) (A : Option Addr) (l : List (Int × Int)) (c : Nat) (w0 : World) (hA : Ro w0 A (flat2 l)) (h : srE b r l = 0) :
    Calls Try.prog 20 #[.agg #[.int .i64 b, .int .i64 r], .slice A l.length c] w0 (RetOwn w0 (fun v => .tuple #[v, .int .i64 0]) 3 1 l.length ((shUp b r l l.length).map (Value.int .i64))) := by
  refine enterK 93 Try.func20 rfl rfl rfl ?_
  intro a hF Q0 hR0 hN0
  have hM := Mem.start w0
  replace hM := hM.addOld 1 hA (Nat.le_refl _)
  refine wp_seq_k fun K1 hK1 => ?_
  refine wp_region_lit ?_
  refine wl (eN 2 2 (t := 23) (fun b => .pointer (some ⟨b, 0, none⟩)) #[.int .i64 b, .int .i64 r] hF hM (by kernel_rfl) (fun _ => by kernel_rfl) fun bb1 a w hF hM => ?_)
  refine sB 2 [(4, .slice none 0 0), (5, .int .i64 0)] hF (by kernel_rfl) fun a hF => ?_
  refine wpList_nil ?_
  refine hK1 _ _ ?_
  refine wp_seq_k fun K2 hK2 => ?_
  refine wp_seq_k fun K3 hK3 => ?_
  by_cases hz1 : bkE b r = 0
  · skip
    have hz2 := bkE_ok hz1
    refine wp_region_lit ?_
    refine wl (eL 12 2 0 (v := .agg #[.int .i64 b, .int .i64 r]) hF hM (by kernel_rfl) rfl rfl (by kernel_rfl) (by kernel_rfl) fun a w hF hM => ?_)
    refine wl (eM 13 (v := .bool true) hF hM (by kernel_rfl) (yld_call (f := 27) (args := #[.agg #[.int .i64 b, .int .i64 r]]) hF (by kernel_rfl) (fun _ => by kernel_rfl) (fun w hM => right_yes b r w hz1)) fun a w hF hM => ?_)
    refine sB 1 [(14, .bool false)] hF (by kernel_rfl) fun a hF => ?_
    refine wpList_nil ?_
    refine hK3 _ _ ?_
    refine cF hF (by kernel_rfl) (by kernel_rfl) ?_
    refine wp_skip ?_
    refine hK2 _ _ ?_
    refine wp_seq_k fun K4 hK4 => ?_
    refine wp_seq_k fun K5 hK5 => ?_
    cases hz3 : (trB l)
    · skip
      refine wp_region_lit ?_
      refine sB 1 [(15, .slice A l.length c)] hF (by kernel_rfl) fun a hF => ?_
      refine wl (eM 16 (v := .bool false) hF hM (by kernel_rfl) (Yld.to (yld_call (f := 34) (args := #[.slice A l.length c]) hF (by kernel_rfl) (fun _ => by kernel_rfl) (fun w hM => rightTrace_w A l _ w (hM.ok 1 _ rfl))) (congrArg Value.bool hz3)) fun a w hF hM => ?_)
      refine sB 1 [(17, .bool true)] hF (by kernel_rfl) fun a hF => ?_
      refine wpList_nil ?_
      refine hK5 _ _ ?_
      refine cT hF (by kernel_rfl) (by kernel_rfl) ?_
      refine wp_seq_k fun K6 hK6 => ?_
      refine wp_region_lit ?_
      refine sB 2 [(4, .slice none 0 0), (5, .int .i64 131)] hF (by kernel_rfl) fun a hF => ?_
      refine wpList_nil ?_
      refine hK6 _ _ ?_
      refine wp_ret ?_
      refine hR0 _ _ ?_
      refine ret_of hF hM (.tmp rfl (.tmp rfl (.nil))) ?_
      exact absurd (h.symm.trans (sr_131 hz1 (by unfold trE; rw [hz3]; decide))) (by decide)
    · skip
      refine wp_region_lit ?_
      refine sB 1 [(15, .slice A l.length c)] hF (by kernel_rfl) fun a hF => ?_
      refine wl (eM 16 (v := .bool true) hF hM (by kernel_rfl) (Yld.to (yld_call (f := 34) (args := #[.slice A l.length c]) hF (by kernel_rfl) (fun _ => by kernel_rfl) (fun w hM => rightTrace_w A l _ w (hM.ok 1 _ rfl))) (congrArg Value.bool hz3)) fun a w hF hM => ?_)
      refine sB 1 [(17, .bool false)] hF (by kernel_rfl) fun a hF => ?_
      refine wpList_nil ?_
      refine hK5 _ _ ?_
      refine cF hF (by kernel_rfl) (by kernel_rfl) ?_
      refine wp_skip ?_
      refine hK4 _ _ ?_
      refine wp_seq_k fun K7 hK7 => ?_
      refine wp_seq_k fun K8 hK8 => ?_
      have hln5 := (trE_ok (show trE l = 0 by unfold trE; rw [if_pos hz3])).1
      refine wp_region_lit ?_
      refine sB 1 [(6, .int .i64 0)] hF (by kernel_rfl) fun a hF => ?_
      refine wpList_nil ?_
      refine hK8 _ _ ?_
      refine wp_block ?_
      refine wp_loop_k (G := Nat) (fun gg a w => Fr 93 [(6, some (.int .i64 (gg : Int))), (1, some (.slice A l.length c)), (2, some (.pointer (some ⟨bb1, 0, none⟩)))] a ∧ Mem w0.heap.size w0 [(1, some (.ro A (flat2 l))), (2, some (.row bb1 23 #[.int .i64 b, .int .i64 r]))] w ∧ ((gg : Int) ≤ (l.length : Int)) ∧ (∀ j, j < gg → (pr l j).2 ≤ b)) (fun gg => l.length - gg) (0) ?_ ?_
      · refine ⟨((((Fr.nil hF).c hF (i := 2) rfl rfl).c hF (i := 1) rfl rfl).c hF (i := 6) rfl (vi (show (0 : Int) = (0 : Int) from by omega))), (hM.sub ((Sub.nil.c (k := 2) rfl rfl).c (k := 1) rfl rfl)), (show (0 : Int) ≤ (l.length : Int) from by omega), (show ∀ j, j < 0 → (pr l j).2 ≤ b from by exact fun j hj => by omega)⟩
      · intro gg a w hI
        intro K9 hK9
        obtain ⟨k, rfl⟩ : ∃ x, x = gg := ⟨_, rfl⟩
        try dsimp only at hI hK9
        obtain ⟨hF, hM, hz4, hz5⟩ := hI
        refine wp_seq_k fun K10 hK10 => ?_
        refine wp_seq_k fun K11 hK11 => ?_
        refine wp_region_lit ?_
        refine sB 4 [(18, .int .i64 (k : Int)), (19, .slice A l.length c), (20, .int .i64 (l.length : Int)), (21, .bool (decide ((k : Int) < (l.length : Int))))] hF (by kernel_rfl) fun a hF => ?_
        refine wpList_nil ?_
        refine hK11 _ _ ?_
        by_cases hz6 : (k : Int) < (l.length : Int)
        · skip
          replace hF := hF.c hF (i := 21) (v := .bool true) rfl (bT hz6)
          refine cT hF (by kernel_rfl) (by kernel_rfl) ?_
          refine wp_skip ?_
          refine hK10 _ _ ?_
          refine wp_seq_k fun K12 hK12 => ?_
          refine wp_block ?_
          refine wp_seq_k fun K13 hK13 => ?_
          refine rQ hM (by kernel_rfl) (by kernel_rfl) ?_
          refine eQ 24 (v0 := .slice A l.length c) (v := .slice A l.length c) hF (by kernel_rfl) (fun _ => by kernel_rfl) rfl fun a hF => ?_
          refine eQ 25 (v0 := .int .i64 (k : Int)) (v := .int .i64 (k : Int)) hF (by kernel_rfl) (fun _ => by kernel_rfl) rfl fun a hF => ?_
          refine eQ2 26 (v := .pointer (some (ea A (k * 2)))) hF (by kernel_rfl) (yld_ix (kd := .i64) (e := 31) (len := l.length) (cap := c) (i := (k : Int)) (size := 2) (A := A) hF rfl (by kernel_rfl) (by kernel_rfl) (by kernel_rfl) (by kernel_rfl) (by kernel_rfl) (roK 1 rfl) (by omega) (by omega) (by rw [flat2_length]; omega)) fun a hF => ?_
          refine eQ 27 (v0 := .pointer (some (ea A (k * 2 + 1)))) (v := .pointer (some (ea A (k * 2 + 1)))) hF (by kernel_rfl) (fun _ => by kernel_rfl) rfl fun a hF => ?_
          refine eQ2 28 (v := .int .i64 (pr l k).2) hF (by kernel_rfl) (yld_ro1 (A := A) (j := k * 2 + 1) hF rfl (by kernel_rfl) (by kernel_rfl) (roK 1 rfl) (by kernel_rfl) (pr_snd (k := k) (by omega) (by omega))) fun a hF => ?_
          refine eQ 29 (v0 := .pointer (some ⟨bb1, 0, none⟩)) (v := .pointer (some ⟨bb1, 0, none⟩)) hF (by kernel_rfl) (fun _ => by kernel_rfl) rfl fun a hF => ?_
          refine eQL 30 2 0 (v := .int .i64 b) hF (by kernel_rfl) rfl rfl (by kernel_rfl) (by kernel_rfl) fun a hF => ?_
          refine eQ 31 (v0 := .bool (decide (b < (pr l k).2))) (v := .bool (decide (b < (pr l k).2))) hF (by kernel_rfl) (fun _ => by kernel_rfl) rfl fun a hF => ?_
          refine wpQuiet_nil ?_
          intro w hM
          refine hK13 _ _ ?_
          by_cases hz7 : b < (pr l k).2
          · skip
            replace hF := hF.c hF (i := 31) (v := .bool true) rfl (bT hz7)
            refine cT hF (by kernel_rfl) (by kernel_rfl) ?_
            refine wp_seq_k fun K14 hK14 => ?_
            refine wp_region_lit ?_
            refine sB 2 [(4, .slice none 0 0), (5, .int .i64 4)] hF (by kernel_rfl) fun a hF => ?_
            refine wpList_nil ?_
            refine hK14 _ _ ?_
            refine wp_ret ?_
            refine hR0 _ _ ?_
            refine ret_of hF hM (.tmp rfl (.tmp rfl (.nil))) ?_
            exact absurd (h.symm.trans (sr_4 hz1 (by unfold trE; rw [if_pos hz3]) (fun q => by have := fitB_get q (k := k) (by omega); omega))) (by decide)
          · skip
            replace hF := hF.c hF (i := 31) (v := .bool false) rfl (bF hz7)
            refine cF hF (by kernel_rfl) (by kernel_rfl) ?_
            refine wp_skip ?_
            refine hK12 _ _ ?_
            refine wp_region_lit ?_
            refine sB 1 [(22, .int .i64 (k : Int))] hF (by kernel_rfl) fun a hF => ?_
            refine wl (eP 23 (v0 := .int .i64 (IntKind.i64.wrap ((k : Int) + 1))) (v := .int .i64 ((k : Int) + 1)) hF (by kernel_rfl) (fun _ => by kernel_rfl) (wi (by omega)) fun a hF => ?_)
            refine sB 1 [(6, .int .i64 ((k : Int) + 1))] hF (by kernel_rfl) fun a hF => ?_
            refine wpList_nil ?_
            refine hK9 _ _ ⟨(k + 1), ⟨((((Fr.nil hF).c hF (i := 2) rfl rfl).c hF (i := 1) rfl rfl).c hF (i := 6) rfl (vi (show ((k : Int) + 1 : Int) = ((k + 1) : Int) from by omega))), (hM.sub ((Sub.nil.c (k := 2) rfl rfl).c (k := 1) rfl rfl)), (show ((k + 1) : Int) ≤ (l.length : Int) from by omega), (show ∀ j, j < (k + 1) → (pr l j).2 ≤ b from by exact fit_next (by assumption) (by omega))⟩, (show l.length - (k + 1) < l.length - k from by omega)⟩
        · skip
          replace hF := hF.c hF (i := 21) (v := .bool false) rfl (bF hz6)
          refine cF hF (by kernel_rfl) (by kernel_rfl) ?_
          refine wp_exit ?_
          refine hK7 _ _ ?_
          refine wp_seq_k fun K15 hK15 => ?_
          have hfit : fitB b l = true := fitB_yes (fun j hj => ‹∀ j, j < k → (pr l j).2 ≤ b› j (by omega))
          have hbk := hz1
          have htr : trE l = 0 := by unfold trE; rw [if_pos hz3]
          have hlen := (trE_ok htr).1
          have hbd := bkE_ok hbk
          refine wp_region_lit ?_
          refine sB 1 [(7, .slice none 0 0)] hF (by kernel_rfl) fun a hF => ?_
          refine wpList_nil ?_
          refine hK15 _ _ ?_
          refine wp_seq_k fun K16 hK16 => ?_
          refine wp_seq_k fun K17 hK17 => ?_
          refine wp_region_lit ?_
          refine sB 1 [(8, .int .i64 0)] hF (by kernel_rfl) fun a hF => ?_
          refine wpList_nil ?_
          refine hK17 _ _ ?_
          refine wp_block ?_
          replace hM := hM.addNil 3 3 1
          refine wp_loop_k (G := Nat × List Int × Option Addr × Nat) (fun gg a w => Fr 93 [(7, some (.slice gg.2.2.1 gg.1 gg.2.2.2)), (8, some (.int .i64 (gg.1 : Int))), (1, some (.slice A l.length c)), (2, some (.pointer (some ⟨bb1, 0, none⟩)))] a ∧ Mem w0.heap.size w0 [(1, some (.ro A (flat2 l))), (2, some (.row bb1 23 #[.int .i64 b, .int .i64 r])), (3, some (.own (.slice gg.2.2.1 gg.1 gg.2.2.2) 3 1 gg.1 (gg.2.1.map (Value.int .i64))))] w ∧ ((gg.1 : Int) ≤ (l.length : Int)) ∧ (gg.2.1 = shUp b r l gg.1) ∧ (∀ j, j < gg.1 → shT b r l j ≤ 1099511627776) ∧ ((gg.2.1.length : Int) = (gg.1 : Int))) (fun gg => l.length - gg.1) (0, [], none, 0) ?_ ?_
          · refine ⟨(((((Fr.nil hF).c hF (i := 2) rfl rfl).c hF (i := 1) rfl rfl).c hF (i := 8) rfl (vi (show (0 : Int) = (0 : Int) from by omega))).c hF (i := 7) rfl rfl), (hM.sub (((Sub.nil.c (k := 3) rfl rfl).c (k := 2) rfl rfl).c (k := 1) rfl rfl)), (show (0 : Int) ≤ (l.length : Int) from by omega), (show ([]) = shUp b r l 0 from by rfl), (show ∀ j, j < 0 → shT b r l j ≤ 1099511627776 from by exact fun j hj => by omega), (show (([]).length : Int) = (0 : Int) from by rfl)⟩
          · intro gg a w hI
            intro K18 hK18
            obtain ⟨m, got, G, gc⟩ := gg
            try dsimp only at hI hK18
            obtain ⟨hF, hM, hz8, hz9, hz10, hz11⟩ := hI
            have hgot : got = shUp b r l m := by assumption
            have hTm : ∀ j, j < m → shT b r l j ≤ 1099511627776 := by assumption
            refine wp_seq_k fun K19 hK19 => ?_
            refine wp_seq_k fun K20 hK20 => ?_
            refine wp_region_lit ?_
            refine sB 4 [(32, .int .i64 (m : Int)), (33, .slice A l.length c), (34, .int .i64 (l.length : Int)), (35, .bool (decide ((m : Int) < (l.length : Int))))] hF (by kernel_rfl) fun a hF => ?_
            refine wpList_nil ?_
            refine hK20 _ _ ?_
            by_cases hz12 : (m : Int) < (l.length : Int)
            · skip
              replace hF := hF.c hF (i := 35) (v := .bool true) rfl (bT hz12)
              refine cT hF (by kernel_rfl) (by kernel_rfl) ?_
              refine wp_skip ?_
              refine hK19 _ _ ?_
              refine wp_seq_k fun K21 hK21 => ?_
              refine wp_block ?_
              refine wp_seq_k fun K22 hK22 => ?_
              have hq := tr_all htr m (by omega)
              have hr0 : rfT b r l m (m - m) = (pr l m).1 := by rw [Nat.sub_self]; rfl
              have hs0 : sumN l (m + 1) = sumN l m + (pr l m).2 := rfl
              refine rQ hM (by kernel_rfl) (by kernel_rfl) ?_
              refine eQ 38 (v0 := .slice A l.length c) (v := .slice A l.length c) hF (by kernel_rfl) (fun _ => by kernel_rfl) rfl fun a hF => ?_
              refine eQ 39 (v0 := .int .i64 (m : Int)) (v := .int .i64 (m : Int)) hF (by kernel_rfl) (fun _ => by kernel_rfl) rfl fun a hF => ?_
              refine eQ2 40 (v := .pointer (some (ea A (m * 2)))) hF (by kernel_rfl) (yld_ix (kd := .i64) (e := 31) (len := l.length) (cap := c) (i := (m : Int)) (size := 2) (A := A) hF rfl (by kernel_rfl) (by kernel_rfl) (by kernel_rfl) (by kernel_rfl) (by kernel_rfl) (roK 1 rfl) (by omega) (by omega) (by rw [flat2_length]; omega)) fun a hF => ?_
              refine eQ 41 (v0 := .pointer (some (ea A (m * 2)))) (v := .pointer (some (ea A (m * 2)))) hF (by kernel_rfl) (fun _ => by kernel_rfl) rfl fun a hF => ?_
              refine eQ2 42 (v := .int .i64 (pr l m).1) hF (by kernel_rfl) (yld_ro1 (A := A) (j := m * 2) hF rfl (by kernel_rfl) (by kernel_rfl) (roK 1 rfl) (by kernel_rfl) (pr_fst (k := m) (by omega) (by omega))) fun a hF => ?_
              refine eQ 43 (v0 := .slice A l.length c) (v := .slice A l.length c) hF (by kernel_rfl) (fun _ => by kernel_rfl) rfl fun a hF => ?_
              refine eQ 44 (v0 := .int .i64 (m : Int)) (v := .int .i64 (m : Int)) hF (by kernel_rfl) (fun _ => by kernel_rfl) rfl fun a hF => ?_
              refine eQ2 45 (v := .pointer (some (ea A (m * 2)))) hF (by kernel_rfl) (yld_ix (kd := .i64) (e := 31) (len := l.length) (cap := c) (i := (m : Int)) (size := 2) (A := A) hF rfl (by kernel_rfl) (by kernel_rfl) (by kernel_rfl) (by kernel_rfl) (by kernel_rfl) (roK 1 rfl) (by omega) (by omega) (by rw [flat2_length]; omega)) fun a hF => ?_
              refine eQ 46 (v0 := .pointer (some (ea A (m * 2 + 1)))) (v := .pointer (some (ea A (m * 2 + 1)))) hF (by kernel_rfl) (fun _ => by kernel_rfl) rfl fun a hF => ?_
              refine eQ2 47 (v := .int .i64 (pr l m).2) hF (by kernel_rfl) (yld_ro1 (A := A) (j := m * 2 + 1) hF rfl (by kernel_rfl) (by kernel_rfl) (roK 1 rfl) (by kernel_rfl) (pr_snd (k := m) (by omega) (by omega))) fun a hF => ?_
              refine eQ 9 (v0 := .int .i64 (pr l m).1) (v := .int .i64 (pr l m).1) hF (by kernel_rfl) (fun _ => by kernel_rfl) rfl fun a hF => ?_
              refine eQ 10 (v0 := .int .i64 (pr l m).2) (v := .int .i64 (pr l m).2) hF (by kernel_rfl) (fun _ => by kernel_rfl) rfl fun a hF => ?_
              refine wpQuiet_nil ?_
              intro w hM
              refine hK22 _ _ ?_
              refine wp_seq_k fun K23 hK23 => ?_
              refine wp_seq_k fun K24 hK24 => ?_
              refine wp_region_lit ?_
              refine sB 1 [(48, .int .i64 (m : Int))] hF (by kernel_rfl) fun a hF => ?_
              refine wl (eP 49 (v0 := .int .i64 (IntKind.i64.wrap ((m : Int) - 1))) (v := .int .i64 ((m : Int) - 1)) hF (by kernel_rfl) (fun _ => by kernel_rfl) (wi (by omega)) fun a hF => ?_)
              refine sB 1 [(11, .int .i64 ((m : Int) - 1))] hF (by kernel_rfl) fun a hF => ?_
              refine wpList_nil ?_
              refine hK24 _ _ ?_
              refine wp_block ?_
              refine wp_loop_k (G := Nat) (fun gg a w => Fr 93 [(9, some (.int .i64 (rfT b r l m (m - gg)))), (10, some (.int .i64 (sumN l (m + 1) - sumN l gg))), (11, some (.int .i64 ((gg : Int) - 1))), (1, some (.slice A l.length c)), (2, some (.pointer (some ⟨bb1, 0, none⟩))), (7, some (.slice G m gc)), (8, some (.int .i64 (m : Int)))] a ∧ Mem w0.heap.size w0 [(1, some (.ro A (flat2 l))), (2, some (.row bb1 23 #[.int .i64 b, .int .i64 r])), (3, some (.own (.slice G m gc) 3 1 m (got.map (Value.int .i64))))] w ∧ ((gg : Int) ≤ (m : Int))) (fun gg => gg) (m) ?_ ?_
              · refine ⟨((((((((Fr.nil hF).c hF (i := 8) rfl rfl).c hF (i := 7) rfl rfl).c hF (i := 2) rfl rfl).c hF (i := 1) rfl rfl).c hF (i := 11) rfl rfl).c hF (i := 10) rfl (vi (show ((pr l m).2 : Int) = sumN l (m + 1) - sumN l m from by omega))).c hF (i := 9) rfl (vi (show ((pr l m).1 : Int) = rfT b r l m (m - m) from by omega))), (hM.sub (((Sub.nil.c (k := 3) rfl rfl).c (k := 2) rfl rfl).c (k := 1) rfl rfl)), (show (m : Int) ≤ (m : Int) from by omega)⟩
              · intro gg a w hI
                intro K25 hK25
                obtain ⟨i, rfl⟩ : ∃ x, x = gg := ⟨_, rfl⟩
                try dsimp only at hI hK25
                obtain ⟨hF, hM, hz13⟩ := hI
                refine wp_seq_k fun K26 hK26 => ?_
                refine wp_seq_k fun K27 hK27 => ?_
                refine wp_region_lit ?_
                refine sB 2 [(50, .int .i64 ((i : Int) - 1)), (51, .bool (decide (0 ≤ (i : Int) - 1)))] hF (by kernel_rfl) fun a hF => ?_
                refine wpList_nil ?_
                refine hK27 _ _ ?_
                by_cases hz14 : 0 ≤ (i : Int) - 1
                · skip
                  replace hF := hF.c hF (i := 51) (v := .bool true) rfl (bT hz14)
                  refine cT hF (by kernel_rfl) (by kernel_rfl) ?_
                  refine wp_skip ?_
                  refine hK26 _ _ ?_
                  refine wp_seq_k fun K28 hK28 => ?_
                  refine wp_block ?_
                  refine wp_seq_k fun K29 hK29 => ?_
                  have hs0 : sumN l i = sumN l (i - 1) + (pr l (i - 1)).2 := sumN_at34 (by omega)
                  have hs1 := sumN_bd htr (m + 1) (by omega)
                  have hs2 := sumN_bd htr (i - 1) (by omega)
                  have hs3 := sumN_mono htr (i := i) (k := m + 1) (by omega) (by omega)
                  have hs4 := tr_all htr (i - 1) (by omega)
                  have hgi : nt got (i - 1) = shT b r l (i - 1) := by rw [hgot]; exact shUp_at (by omega)
                  have hTi := hTm (i - 1) (by omega)
                  have hT0 := (shT_up hbk htr hfit (k := i - 1) (by omega) (fun j hj => hTm j (by omega))).2.2
                  refine wp_region_lit ?_
                  refine sB 3 [(54, .int .i64 (sumN l (m + 1) - sumN l i)), (55, .slice A l.length c), (56, .int .i64 ((i : Int) - 1))] hF (by kernel_rfl) fun a hF => ?_
                  refine wl (eM 57 (v := .pointer (some (ea A ((i - 1) * 2)))) hF hM (by kernel_rfl) (yld_ix (kd := .i64) (e := 31) (len := l.length) (cap := c) (i := (i : Int) - 1) (size := 2) (A := A) hF rfl (by kernel_rfl) (by kernel_rfl) (by kernel_rfl) (by kernel_rfl) (by kernel_rfl) (roK 1 rfl) (by omega) (by omega) (by rw [flat2_length]; omega)) fun a w hF hM => ?_)
                  refine sB 1 [(58, .pointer (some (ea A ((i - 1) * 2 + 1))))] hF (by kernel_rfl) fun a hF => ?_
                  refine wl (eM 59 (v := .int .i64 (pr l (i - 1)).2) hF hM (by kernel_rfl) (yld_ro1 (A := A) (j := (i - 1) * 2 + 1) hF rfl (by kernel_rfl) (by kernel_rfl) (roK 1 rfl) (by kernel_rfl) (pr_snd (k := i - 1) (by omega) (by omega))) fun a w hF hM => ?_)
                  refine wl (eP 60 (v0 := .int .i64 (IntKind.i64.wrap (sumN l (m + 1) - sumN l i + (pr l (i - 1)).2))) (v := .int .i64 (sumN l (m + 1) - sumN l (i - 1))) hF (by kernel_rfl) (fun _ => by kernel_rfl) (vi ((w64 (by omega)).trans (by omega))) fun a hF => ?_)
                  refine sB 1 [(10, .int .i64 (sumN l (m + 1) - sumN l (i - 1)))] hF (by kernel_rfl) fun a hF => ?_
                  refine wpList_nil ?_
                  refine hK29 _ _ ?_
                  refine wp_seq_k fun K30 hK30 => ?_
                  refine wp_region_lit ?_
                  refine sB 3 [(61, .int .i64 (rfT b r l m (m - i))), (62, .slice G m gc), (63, .int .i64 ((i : Int) - 1))] hF (by kernel_rfl) fun a hF => ?_
                  refine wl (eM 64 (v := .pointer (some (ea G (i - 1)))) hF hM (by kernel_rfl) (yld_ix (kd := .i64) (e := 3) (len := m) (cap := gc) (i := (i : Int) - 1) (size := 1) (A := G) hF rfl (by kernel_rfl) (by kernel_rfl) (by kernel_rfl) (by kernel_rfl) (by kernel_rfl) (roO 3 rfl) (by omega) (by omega) (by rw [List.length_map]; omega)) fun a w hF hM => ?_)
                  refine wl (eM 65 (v := .int .i64 (nt got (i - 1))) hF hM (by kernel_rfl) (yld_ro1 (A := G) (j := i - 1) hF rfl (by kernel_rfl) (by kernel_rfl) (roO 3 rfl) (by kernel_rfl) (nt_at (by omega))) fun a w hF hM => ?_)
                  refine wl (eP 66 (v0 := .int .i64 (if nt got (i - 1) > rfT b r l m (m - i) then nt got (i - 1) else rfT b r l m (m - i))) (v := .int .i64 (max (rfT b r l m (m - i)) (nt got (i - 1)))) hF (by kernel_rfl) (fun _ => by kernel_rfl) (vi (max_if _ _)) fun a hF => ?_)
                  refine sB 1 [(9, .int .i64 (max (rfT b r l m (m - i)) (nt got (i - 1))))] hF (by kernel_rfl) fun a hF => ?_
                  refine wpList_nil ?_
                  refine hK30 _ _ ?_
                  refine wp_seq_k fun K31 hK31 => ?_
                  refine wp_region_lit ?_
                  refine sB 2 [(67, .int .i64 (sumN l (m + 1) - sumN l (i - 1))), (68, .pointer (some ⟨bb1, 0, none⟩))] hF (by kernel_rfl) fun a hF => ?_
                  refine wl (eL 69 2 0 (v := .int .i64 b) hF hM (by kernel_rfl) rfl rfl (by kernel_rfl) (by kernel_rfl) fun a w hF hM => ?_)
                  refine sB 1 [(70, .bool (decide (b < sumN l (m + 1) - sumN l (i - 1))))] hF (by kernel_rfl) fun a hF => ?_
                  refine wpList_nil ?_
                  refine hK31 _ _ ?_
                  by_cases hz15 : b < sumN l (m + 1) - sumN l (i - 1)
                  · skip
                    replace hF := hF.c hF (i := 70) (v := .bool true) rfl (bT hz15)
                    refine cT hF (by kernel_rfl) (by kernel_rfl) ?_
                    refine rQ hM (by kernel_rfl) (by kernel_rfl) ?_
                    refine eQ 71 (v0 := .int .i64 (max (rfT b r l m (m - i)) (nt got (i - 1)))) (v := .int .i64 (max (rfT b r l m (m - i)) (nt got (i - 1)))) hF (by kernel_rfl) (fun _ => by kernel_rfl) rfl fun a hF => ?_
                    refine eQ 72 (v0 := .slice G m gc) (v := .slice G m gc) hF (by kernel_rfl) (fun _ => by kernel_rfl) rfl fun a hF => ?_
                    refine eQ 73 (v0 := .int .i64 ((i : Int) - 1)) (v := .int .i64 ((i : Int) - 1)) hF (by kernel_rfl) (fun _ => by kernel_rfl) rfl fun a hF => ?_
                    refine eQ2 74 (v := .pointer (some (ea G (i - 1)))) hF (by kernel_rfl) (yld_ix (kd := .i64) (e := 3) (len := m) (cap := gc) (i := (i : Int) - 1) (size := 1) (A := G) hF rfl (by kernel_rfl) (by kernel_rfl) (by kernel_rfl) (by kernel_rfl) (by kernel_rfl) (roO 3 rfl) (by omega) (by omega) (by rw [List.length_map]; omega)) fun a hF => ?_
                    refine eQ2 75 (v := .int .i64 (nt got (i - 1))) hF (by kernel_rfl) (yld_ro1 (A := G) (j := i - 1) hF rfl (by kernel_rfl) (by kernel_rfl) (roO 3 rfl) (by kernel_rfl) (nt_at (by omega))) fun a hF => ?_
                    refine eQ 76 (v0 := .int .i64 (sumN l (m + 1) - sumN l (i - 1))) (v := .int .i64 (sumN l (m + 1) - sumN l (i - 1))) hF (by kernel_rfl) (fun _ => by kernel_rfl) rfl fun a hF => ?_
                    refine eQ 77 (v0 := .pointer (some ⟨bb1, 0, none⟩)) (v := .pointer (some ⟨bb1, 0, none⟩)) hF (by kernel_rfl) (fun _ => by kernel_rfl) rfl fun a hF => ?_
                    refine eQL 78 2 0 (v := .int .i64 b) hF (by kernel_rfl) rfl rfl (by kernel_rfl) (by kernel_rfl) fun a hF => ?_
                    refine eQ 79 (v0 := .int .i64 (IntKind.i64.wrap (sumN l (m + 1) - sumN l (i - 1) - b))) (v := .int .i64 (sumN l (m + 1) - sumN l (i - 1) - b)) hF (by kernel_rfl) (fun _ => by kernel_rfl) (wi (by omega)) fun a hF => ?_
                    refine eQ 80 (v0 := .int .i64 (IntKind.i64.wrap ((sumN l (m + 1) - sumN l (i - 1) - b) * 1048576))) (v := .int .i64 ((sumN l (m + 1) - sumN l (i - 1) - b) * 1048576)) hF (by kernel_rfl) (fun _ => by kernel_rfl) (wi (by omega)) fun a hF => ?_
                    refine eQ 81 (v0 := .pointer (some ⟨bb1, 1, none⟩)) (v := .pointer (some ⟨bb1, 1, none⟩)) hF (by kernel_rfl) (fun _ => by kernel_rfl) rfl fun a hF => ?_
                    refine eQL 82 2 1 (v := .int .i64 r) hF (by kernel_rfl) rfl rfl (by kernel_rfl) (by kernel_rfl) fun a hF => ?_
                    refine eQ2 83 (v := .int .i64 (cq ((sumN l (m + 1) - sumN l (i - 1) - b) * 1048576) r)) hF (by kernel_rfl) (yld_call (f := 30) (args := #[.int .i64 ((sumN l (m + 1) - sumN l (i - 1) - b) * 1048576), .int .i64 r]) hF (by kernel_rfl) (fun _ => by kernel_rfl) (fun w hM => rCeil4_w ((sumN l (m + 1) - sumN l (i - 1) - b) * 1048576) r w (by omega))) fun a hF => ?_
                    have := cq_in (n := (sumN l (m + 1) - sumN l (i - 1) - b) * 1048576) (d := r) (B := 219902324506624) (by omega) (by omega) (by omega)
                    refine eQ 84 (v0 := .int .i64 (IntKind.i64.wrap (nt got (i - 1) + cq ((sumN l (m + 1) - sumN l (i - 1) - b) * 1048576) r))) (v := .int .i64 (nt got (i - 1) + cq ((sumN l (m + 1) - sumN l (i - 1) - b) * 1048576) r)) hF (by kernel_rfl) (fun _ => by kernel_rfl) (wi (by omega)) fun a hF => ?_
                    refine eQ 85 (v0 := .int .i64 (if nt got (i - 1) + cq ((sumN l (m + 1) - sumN l (i - 1) - b) * 1048576) r > max (rfT b r l m (m - i)) (nt got (i - 1)) then nt got (i - 1) + cq ((sumN l (m + 1) - sumN l (i - 1) - b) * 1048576) r else max (rfT b r l m (m - i)) (nt got (i - 1)))) (v := .int .i64 (max (max (rfT b r l m (m - i)) (nt got (i - 1))) (nt got (i - 1) + cq ((sumN l (m + 1) - sumN l (i - 1) - b) * 1048576) r))) hF (by kernel_rfl) (fun _ => by kernel_rfl) (vi (max_if _ _)) fun a hF => ?_
                    refine eQ 9 (v0 := .int .i64 (max (max (rfT b r l m (m - i)) (nt got (i - 1))) (nt got (i - 1) + cq ((sumN l (m + 1) - sumN l (i - 1) - b) * 1048576) r))) (v := .int .i64 (max (max (rfT b r l m (m - i)) (nt got (i - 1))) (nt got (i - 1) + cq ((sumN l (m + 1) - sumN l (i - 1) - b) * 1048576) r))) hF (by kernel_rfl) (fun _ => by kernel_rfl) rfl fun a hF => ?_
                    refine wpQuiet_nil ?_
                    intro w hM
                    refine hK28 _ _ ?_
                    refine wp_region_lit ?_
                    refine sB 1 [(52, .int .i64 ((i : Int) - 1))] hF (by kernel_rfl) fun a hF => ?_
                    refine wl (eP 53 (v0 := .int .i64 (IntKind.i64.wrap ((i : Int) - 1 - 1))) (v := .int .i64 ((i : Int) - 1 - 1)) hF (by kernel_rfl) (fun _ => by kernel_rfl) (wi (by omega)) fun a hF => ?_)
                    refine sB 1 [(11, .int .i64 ((i : Int) - 1 - 1))] hF (by kernel_rfl) fun a hF => ?_
                    refine wpList_nil ?_
                    obtain ⟨j, hj⟩ : ∃ z : Nat, i = z + 1 := ⟨i - 1, by omega⟩
                    have hji : i - 1 = j := by omega
                    have hrf := rf_yes (b := b) (r := r) (l := l) (m := m) hj (by omega) (by omega)
                    have hsj : sumN l (i - 1) = sumN l j := by rw [hji]
                    refine hK25 _ _ ⟨(j), ⟨((((((((Fr.nil hF).c hF (i := 8) rfl rfl).c hF (i := 7) rfl rfl).c hF (i := 2) rfl rfl).c hF (i := 1) rfl rfl).c hF (i := 11) rfl (vi (show ((i : Int) - 1 - 1 : Int) = (j : Int) - 1 from by omega))).c hF (i := 10) rfl (vi (show (sumN l (m + 1) - sumN l (i - 1) : Int) = sumN l (m + 1) - sumN l j from by omega))).c hF (i := 9) rfl (vi (show (max (max (rfT b r l m (m - i)) (nt got (i - 1))) (nt got (i - 1) + cq ((sumN l (m + 1) - sumN l (i - 1) - b) * 1048576) r) : Int) = rfT b r l m (m - j) from by omega))), (hM.sub (((Sub.nil.c (k := 3) rfl rfl).c (k := 2) rfl rfl).c (k := 1) rfl rfl)), (show (j : Int) ≤ (m : Int) from by omega)⟩, (show j < i from by omega)⟩
                  · skip
                    replace hF := hF.c hF (i := 70) (v := .bool false) rfl (bF hz15)
                    refine cF hF (by kernel_rfl) (by kernel_rfl) ?_
                    refine wp_skip ?_
                    refine hK28 _ _ ?_
                    refine wp_region_lit ?_
                    refine sB 1 [(52, .int .i64 ((i : Int) - 1))] hF (by kernel_rfl) fun a hF => ?_
                    refine wl (eP 53 (v0 := .int .i64 (IntKind.i64.wrap ((i : Int) - 1 - 1))) (v := .int .i64 ((i : Int) - 1 - 1)) hF (by kernel_rfl) (fun _ => by kernel_rfl) (wi (by omega)) fun a hF => ?_)
                    refine sB 1 [(11, .int .i64 ((i : Int) - 1 - 1))] hF (by kernel_rfl) fun a hF => ?_
                    refine wpList_nil ?_
                    obtain ⟨j, hj⟩ : ∃ z : Nat, i = z + 1 := ⟨i - 1, by omega⟩
                    have hji : i - 1 = j := by omega
                    have hrf := rf_no (b := b) (r := r) (l := l) (m := m) hj (by omega) (by omega)
                    have hsj : sumN l (i - 1) = sumN l j := by rw [hji]
                    refine hK25 _ _ ⟨(j), ⟨((((((((Fr.nil hF).c hF (i := 8) rfl rfl).c hF (i := 7) rfl rfl).c hF (i := 2) rfl rfl).c hF (i := 1) rfl rfl).c hF (i := 11) rfl (vi (show ((i : Int) - 1 - 1 : Int) = (j : Int) - 1 from by omega))).c hF (i := 10) rfl (vi (show (sumN l (m + 1) - sumN l (i - 1) : Int) = sumN l (m + 1) - sumN l j from by omega))).c hF (i := 9) rfl (vi (show (max (rfT b r l m (m - i)) (nt got (i - 1)) : Int) = rfT b r l m (m - j) from by omega))), (hM.sub (((Sub.nil.c (k := 3) rfl rfl).c (k := 2) rfl rfl).c (k := 1) rfl rfl)), (show (j : Int) ≤ (m : Int) from by omega)⟩, (show j < i from by omega)⟩
                · skip
                  replace hF := hF.c hF (i := 51) (v := .bool false) rfl (bF hz14)
                  refine cF hF (by kernel_rfl) (by kernel_rfl) ?_
                  refine wp_exit ?_
                  refine hK23 _ _ ?_
                  refine wp_seq_k fun K32 hK32 => ?_
                  refine wp_seq_k fun K33 hK33 => ?_
                  have hre : rfT b r l m (m - i) = shT b r l m := by rw [show m - i = m by omega]; exact rfT_end hbk htr hfit (by omega) hTm
                  refine wp_region_lit ?_
                  refine sB 2 [(86, .int .i64 (rfT b r l m (m - i))), (87, .bool (decide (1099511627776 < rfT b r l m (m - i))))] hF (by kernel_rfl) fun a hF => ?_
                  refine wpList_nil ?_
                  refine hK33 _ _ ?_
                  by_cases hz16 : 1099511627776 < rfT b r l m (m - i)
                  · skip
                    replace hF := hF.c hF (i := 87) (v := .bool true) rfl (bT hz16)
                    refine cT hF (by kernel_rfl) (by kernel_rfl) ?_
                    refine wp_seq_k fun K34 hK34 => ?_
                    refine wp_region_lit ?_
                    refine sB 2 [(4, .slice none 0 0), (5, .int .i64 6)] hF (by kernel_rfl) fun a hF => ?_
                    refine wpList_nil ?_
                    refine hK34 _ _ ?_
                    refine wp_ret ?_
                    refine hR0 _ _ ?_
                    refine ret_of hF hM (.tmp rfl (.tmp rfl (.nil))) ?_
                    exact absurd (h.symm.trans (sr_6 hbk htr hfit (fun q => by have h6 := allT_iff.1 q m (by omega); rw [shN_1] at h6; omega))) (by decide)
                  · skip
                    replace hF := hF.c hF (i := 87) (v := .bool false) rfl (bF hz16)
                    refine cF hF (by kernel_rfl) (by kernel_rfl) ?_
                    refine wp_skip ?_
                    refine hK32 _ _ ?_
                    refine wp_region_lit ?_
                    refine sB 2 [(88, .slice G m gc), (89, .int .i64 (rfT b r l m (m - i)))] hF (by kernel_rfl) fun a hF => ?_
                    refine wl (eN 90 4 (t := 3) (fun b => .slice (some ⟨b, 0, none⟩) 1 1) #[.int .i64 (rfT b r l m (m - i))] hF hM (by kernel_rfl) (fun _ => by kernel_rfl) fun bb2 a w hF hM => ?_)
                    refine wl (sApp 91 3 (e := 3) (size := 1) (bytes := 8) (z := .int .i64 0) (m := 1) (c := 1) (l := m) (cap := gc) (A := G) (news := [.int .i64 (rfT b r l m (m - i))]) ((got ++ [rfT b r l m (m - i)]).map (Value.int .i64)) hF hM (by kernel_rfl) rfl (by kernel_rfl) (by kernel_rfl) (by kernel_rfl) rfl rfl rfl rfl (roR 4 rfl) (by simp [Value.oneCell']) (by omega) (by decide) (map_snoc' _ _ _) fun AA3 cc3 a w hF hM => ?_)
                    refine sB 1 [(7, .slice AA3 (m + 1) cc3)] hF (by kernel_rfl) fun a hF => ?_
                    refine wpList_nil ?_
                    refine hK21 _ _ ?_
                    refine wp_region_lit ?_
                    refine sB 1 [(36, .int .i64 (m : Int))] hF (by kernel_rfl) fun a hF => ?_
                    refine wl (eP 37 (v0 := .int .i64 (IntKind.i64.wrap ((m : Int) + 1))) (v := .int .i64 ((m : Int) + 1)) hF (by kernel_rfl) (fun _ => by kernel_rfl) (wi (by omega)) fun a hF => ?_)
                    refine sB 1 [(8, .int .i64 ((m : Int) + 1))] hF (by kernel_rfl) fun a hF => ?_
                    refine wpList_nil ?_
                    refine hK18 _ _ ⟨(m + 1, got ++ [rfT b r l m (m - i)], AA3, cc3), ⟨(((((Fr.nil hF).c hF (i := 2) rfl rfl).c hF (i := 1) rfl rfl).c hF (i := 8) rfl (vi (show ((m : Int) + 1 : Int) = ((m + 1) : Int) from by omega))).c hF (i := 7) rfl rfl), (hM.sub (((Sub.nil.c (k := 3) rfl rfl).c (k := 2) rfl rfl).c (k := 1) rfl rfl)), (show ((m + 1) : Int) ≤ (l.length : Int) from by omega), (show (got ++ [rfT b r l m (m - i)]) = shUp b r l (m + 1) from by rw [shUp_succ, ‹got = shUp b r l m›, hre]; rfl), (show ∀ j, j < (m + 1) → shT b r l j ≤ 1099511627776 from by exact T_next (by assumption) (by rw [← hre]; omega)), (show ((got ++ [rfT b r l m (m - i)]).length : Int) = ((m + 1) : Int) from by first | omega | (simp; omega))⟩, (show l.length - (m + 1) < l.length - m from by omega)⟩
            · skip
              replace hF := hF.c hF (i := 35) (v := .bool false) rfl (bF hz12)
              refine cF hF (by kernel_rfl) (by kernel_rfl) ?_
              refine wp_exit ?_
              refine hK16 _ _ ?_
              refine wp_seq_k fun K35 hK35 => ?_
              refine wp_region_lit ?_
              refine sB 3 [(92, .slice G m gc), (4, .slice G m gc), (5, .int .i64 0)] hF (by kernel_rfl) fun a hF => ?_
              refine wpList_nil ?_
              refine hK35 _ _ ?_
              refine wp_ret ?_
              refine hR0 _ _ ?_
              refine ret_of hF hM (.tmp rfl (.tmp rfl (.nil))) ?_
              have hml : m = l.length := by omega
              have ho := hM.ok 3 _ rfl
              refine ⟨_, _, by rw [← hml]; rfl, ?_, hM.bel⟩
              rw [← hml, ← hgot]; exact ho
  · skip
    refine wp_region_lit ?_
    refine wl (eL 12 2 0 (v := .agg #[.int .i64 b, .int .i64 r]) hF hM (by kernel_rfl) rfl rfl (by kernel_rfl) (by kernel_rfl) fun a w hF hM => ?_)
    refine wl (eM 13 (v := .bool false) hF hM (by kernel_rfl) (yld_call (f := 27) (args := #[.agg #[.int .i64 b, .int .i64 r]]) hF (by kernel_rfl) (fun _ => by kernel_rfl) (fun w hM => right_no b r w hz1)) fun a w hF hM => ?_)
    refine sB 1 [(14, .bool true)] hF (by kernel_rfl) fun a hF => ?_
    refine wpList_nil ?_
    refine hK3 _ _ ?_
    refine cT hF (by kernel_rfl) (by kernel_rfl) ?_
    refine wp_seq_k fun K36 hK36 => ?_
    refine wp_region_lit ?_
    refine sB 2 [(4, .slice none 0 0), (5, .int .i64 130)] hF (by kernel_rfl) fun a hF => ?_
    refine wpList_nil ?_
    refine hK36 _ _ ?_
    refine wp_ret ?_
    refine hR0 _ _ ?_
    refine ret_of hF hM (.tmp rfl (.tmp rfl (.nil))) ?_
    exact absurd (h.symm.trans (sr_130 hz1)) (by decide)

theorem rRun34_bad (b r : Int) (A : Option Addr) (l : List (Int × Int)) (c : Nat) (w0 : World) (hA : Ro w0 A (flat2 l)) (h : ¬ srE b r l = 0) :
    Calls Try.prog 20 #[.agg #[.int .i64 b, .int .i64 r], .slice A l.length c] w0 (Ret w0 (.tuple #[.slice none 0 0, .int .i64 (srE b r l)])) := by
  refine enterK 93 Try.func20 rfl rfl rfl ?_
  intro a hF Q0 hR0 hN0
  have hM := Mem.start w0
  replace hM := hM.addOld 1 hA (Nat.le_refl _)
  refine wp_seq_k fun K1 hK1 => ?_
  refine wp_region_lit ?_
  refine wl (eN 2 2 (t := 23) (fun b => .pointer (some ⟨b, 0, none⟩)) #[.int .i64 b, .int .i64 r] hF hM (by kernel_rfl) (fun _ => by kernel_rfl) fun bb1 a w hF hM => ?_)
  refine sB 2 [(4, .slice none 0 0), (5, .int .i64 0)] hF (by kernel_rfl) fun a hF => ?_
  refine wpList_nil ?_
  refine hK1 _ _ ?_
  refine wp_seq_k fun K2 hK2 => ?_
  refine wp_seq_k fun K3 hK3 => ?_
  by_cases hz1 : bkE b r = 0
  · skip
    have hz2 := bkE_ok hz1
    refine wp_region_lit ?_
    refine wl (eL 12 2 0 (v := .agg #[.int .i64 b, .int .i64 r]) hF hM (by kernel_rfl) rfl rfl (by kernel_rfl) (by kernel_rfl) fun a w hF hM => ?_)
    refine wl (eM 13 (v := .bool true) hF hM (by kernel_rfl) (yld_call (f := 27) (args := #[.agg #[.int .i64 b, .int .i64 r]]) hF (by kernel_rfl) (fun _ => by kernel_rfl) (fun w hM => right_yes b r w hz1)) fun a w hF hM => ?_)
    refine sB 1 [(14, .bool false)] hF (by kernel_rfl) fun a hF => ?_
    refine wpList_nil ?_
    refine hK3 _ _ ?_
    refine cF hF (by kernel_rfl) (by kernel_rfl) ?_
    refine wp_skip ?_
    refine hK2 _ _ ?_
    refine wp_seq_k fun K4 hK4 => ?_
    refine wp_seq_k fun K5 hK5 => ?_
    cases hz3 : (trB l)
    · skip
      refine wp_region_lit ?_
      refine sB 1 [(15, .slice A l.length c)] hF (by kernel_rfl) fun a hF => ?_
      refine wl (eM 16 (v := .bool false) hF hM (by kernel_rfl) (Yld.to (yld_call (f := 34) (args := #[.slice A l.length c]) hF (by kernel_rfl) (fun _ => by kernel_rfl) (fun w hM => rightTrace_w A l _ w (hM.ok 1 _ rfl))) (congrArg Value.bool hz3)) fun a w hF hM => ?_)
      refine sB 1 [(17, .bool true)] hF (by kernel_rfl) fun a hF => ?_
      refine wpList_nil ?_
      refine hK5 _ _ ?_
      refine cT hF (by kernel_rfl) (by kernel_rfl) ?_
      refine wp_seq_k fun K6 hK6 => ?_
      refine wp_region_lit ?_
      refine sB 2 [(4, .slice none 0 0), (5, .int .i64 131)] hF (by kernel_rfl) fun a hF => ?_
      refine wpList_nil ?_
      refine hK6 _ _ ?_
      refine wp_ret ?_
      refine hR0 _ _ ?_
      refine ret_of hF hM (.tmp rfl (.tmp rfl (.nil))) ?_
      exact ⟨ret_eq (by rw [sr_131 hz1 (by unfold trE; rw [hz3]; decide)]; rfl), hM.bel⟩
    · skip
      refine wp_region_lit ?_
      refine sB 1 [(15, .slice A l.length c)] hF (by kernel_rfl) fun a hF => ?_
      refine wl (eM 16 (v := .bool true) hF hM (by kernel_rfl) (Yld.to (yld_call (f := 34) (args := #[.slice A l.length c]) hF (by kernel_rfl) (fun _ => by kernel_rfl) (fun w hM => rightTrace_w A l _ w (hM.ok 1 _ rfl))) (congrArg Value.bool hz3)) fun a w hF hM => ?_)
      refine sB 1 [(17, .bool false)] hF (by kernel_rfl) fun a hF => ?_
      refine wpList_nil ?_
      refine hK5 _ _ ?_
      refine cF hF (by kernel_rfl) (by kernel_rfl) ?_
      refine wp_skip ?_
      refine hK4 _ _ ?_
      refine wp_seq_k fun K7 hK7 => ?_
      refine wp_seq_k fun K8 hK8 => ?_
      have hln5 := (trE_ok (show trE l = 0 by unfold trE; rw [if_pos hz3])).1
      refine wp_region_lit ?_
      refine sB 1 [(6, .int .i64 0)] hF (by kernel_rfl) fun a hF => ?_
      refine wpList_nil ?_
      refine hK8 _ _ ?_
      refine wp_block ?_
      refine wp_loop_k (G := Nat) (fun gg a w => Fr 93 [(6, some (.int .i64 (gg : Int))), (1, some (.slice A l.length c)), (2, some (.pointer (some ⟨bb1, 0, none⟩)))] a ∧ Mem w0.heap.size w0 [(1, some (.ro A (flat2 l))), (2, some (.row bb1 23 #[.int .i64 b, .int .i64 r]))] w ∧ ((gg : Int) ≤ (l.length : Int)) ∧ (∀ j, j < gg → (pr l j).2 ≤ b)) (fun gg => l.length - gg) (0) ?_ ?_
      · refine ⟨((((Fr.nil hF).c hF (i := 2) rfl rfl).c hF (i := 1) rfl rfl).c hF (i := 6) rfl (vi (show (0 : Int) = (0 : Int) from by omega))), (hM.sub ((Sub.nil.c (k := 2) rfl rfl).c (k := 1) rfl rfl)), (show (0 : Int) ≤ (l.length : Int) from by omega), (show ∀ j, j < 0 → (pr l j).2 ≤ b from by exact fun j hj => by omega)⟩
      · intro gg a w hI
        intro K9 hK9
        obtain ⟨k, rfl⟩ : ∃ x, x = gg := ⟨_, rfl⟩
        try dsimp only at hI hK9
        obtain ⟨hF, hM, hz4, hz5⟩ := hI
        refine wp_seq_k fun K10 hK10 => ?_
        refine wp_seq_k fun K11 hK11 => ?_
        refine wp_region_lit ?_
        refine sB 4 [(18, .int .i64 (k : Int)), (19, .slice A l.length c), (20, .int .i64 (l.length : Int)), (21, .bool (decide ((k : Int) < (l.length : Int))))] hF (by kernel_rfl) fun a hF => ?_
        refine wpList_nil ?_
        refine hK11 _ _ ?_
        by_cases hz6 : (k : Int) < (l.length : Int)
        · skip
          replace hF := hF.c hF (i := 21) (v := .bool true) rfl (bT hz6)
          refine cT hF (by kernel_rfl) (by kernel_rfl) ?_
          refine wp_skip ?_
          refine hK10 _ _ ?_
          refine wp_seq_k fun K12 hK12 => ?_
          refine wp_block ?_
          refine wp_seq_k fun K13 hK13 => ?_
          refine rQ hM (by kernel_rfl) (by kernel_rfl) ?_
          refine eQ 24 (v0 := .slice A l.length c) (v := .slice A l.length c) hF (by kernel_rfl) (fun _ => by kernel_rfl) rfl fun a hF => ?_
          refine eQ 25 (v0 := .int .i64 (k : Int)) (v := .int .i64 (k : Int)) hF (by kernel_rfl) (fun _ => by kernel_rfl) rfl fun a hF => ?_
          refine eQ2 26 (v := .pointer (some (ea A (k * 2)))) hF (by kernel_rfl) (yld_ix (kd := .i64) (e := 31) (len := l.length) (cap := c) (i := (k : Int)) (size := 2) (A := A) hF rfl (by kernel_rfl) (by kernel_rfl) (by kernel_rfl) (by kernel_rfl) (by kernel_rfl) (roK 1 rfl) (by omega) (by omega) (by rw [flat2_length]; omega)) fun a hF => ?_
          refine eQ 27 (v0 := .pointer (some (ea A (k * 2 + 1)))) (v := .pointer (some (ea A (k * 2 + 1)))) hF (by kernel_rfl) (fun _ => by kernel_rfl) rfl fun a hF => ?_
          refine eQ2 28 (v := .int .i64 (pr l k).2) hF (by kernel_rfl) (yld_ro1 (A := A) (j := k * 2 + 1) hF rfl (by kernel_rfl) (by kernel_rfl) (roK 1 rfl) (by kernel_rfl) (pr_snd (k := k) (by omega) (by omega))) fun a hF => ?_
          refine eQ 29 (v0 := .pointer (some ⟨bb1, 0, none⟩)) (v := .pointer (some ⟨bb1, 0, none⟩)) hF (by kernel_rfl) (fun _ => by kernel_rfl) rfl fun a hF => ?_
          refine eQL 30 2 0 (v := .int .i64 b) hF (by kernel_rfl) rfl rfl (by kernel_rfl) (by kernel_rfl) fun a hF => ?_
          refine eQ 31 (v0 := .bool (decide (b < (pr l k).2))) (v := .bool (decide (b < (pr l k).2))) hF (by kernel_rfl) (fun _ => by kernel_rfl) rfl fun a hF => ?_
          refine wpQuiet_nil ?_
          intro w hM
          refine hK13 _ _ ?_
          by_cases hz7 : b < (pr l k).2
          · skip
            replace hF := hF.c hF (i := 31) (v := .bool true) rfl (bT hz7)
            refine cT hF (by kernel_rfl) (by kernel_rfl) ?_
            refine wp_seq_k fun K14 hK14 => ?_
            refine wp_region_lit ?_
            refine sB 2 [(4, .slice none 0 0), (5, .int .i64 4)] hF (by kernel_rfl) fun a hF => ?_
            refine wpList_nil ?_
            refine hK14 _ _ ?_
            refine wp_ret ?_
            refine hR0 _ _ ?_
            refine ret_of hF hM (.tmp rfl (.tmp rfl (.nil))) ?_
            exact ⟨ret_eq (by rw [sr_4 hz1 (by unfold trE; rw [if_pos hz3]) (fun q => by have := fitB_get q (k := k) (by omega); omega)]; rfl), hM.bel⟩
          · skip
            replace hF := hF.c hF (i := 31) (v := .bool false) rfl (bF hz7)
            refine cF hF (by kernel_rfl) (by kernel_rfl) ?_
            refine wp_skip ?_
            refine hK12 _ _ ?_
            refine wp_region_lit ?_
            refine sB 1 [(22, .int .i64 (k : Int))] hF (by kernel_rfl) fun a hF => ?_
            refine wl (eP 23 (v0 := .int .i64 (IntKind.i64.wrap ((k : Int) + 1))) (v := .int .i64 ((k : Int) + 1)) hF (by kernel_rfl) (fun _ => by kernel_rfl) (wi (by omega)) fun a hF => ?_)
            refine sB 1 [(6, .int .i64 ((k : Int) + 1))] hF (by kernel_rfl) fun a hF => ?_
            refine wpList_nil ?_
            refine hK9 _ _ ⟨(k + 1), ⟨((((Fr.nil hF).c hF (i := 2) rfl rfl).c hF (i := 1) rfl rfl).c hF (i := 6) rfl (vi (show ((k : Int) + 1 : Int) = ((k + 1) : Int) from by omega))), (hM.sub ((Sub.nil.c (k := 2) rfl rfl).c (k := 1) rfl rfl)), (show ((k + 1) : Int) ≤ (l.length : Int) from by omega), (show ∀ j, j < (k + 1) → (pr l j).2 ≤ b from by exact fit_next (by assumption) (by omega))⟩, (show l.length - (k + 1) < l.length - k from by omega)⟩
        · skip
          replace hF := hF.c hF (i := 21) (v := .bool false) rfl (bF hz6)
          refine cF hF (by kernel_rfl) (by kernel_rfl) ?_
          refine wp_exit ?_
          refine hK7 _ _ ?_
          refine wp_seq_k fun K15 hK15 => ?_
          have hfit : fitB b l = true := fitB_yes (fun j hj => ‹∀ j, j < k → (pr l j).2 ≤ b› j (by omega))
          have hbk := hz1
          have htr : trE l = 0 := by unfold trE; rw [if_pos hz3]
          have hlen := (trE_ok htr).1
          have hbd := bkE_ok hbk
          refine wp_region_lit ?_
          refine sB 1 [(7, .slice none 0 0)] hF (by kernel_rfl) fun a hF => ?_
          refine wpList_nil ?_
          refine hK15 _ _ ?_
          refine wp_seq_k fun K16 hK16 => ?_
          refine wp_seq_k fun K17 hK17 => ?_
          refine wp_region_lit ?_
          refine sB 1 [(8, .int .i64 0)] hF (by kernel_rfl) fun a hF => ?_
          refine wpList_nil ?_
          refine hK17 _ _ ?_
          refine wp_block ?_
          replace hM := hM.addNil 3 3 1
          refine wp_loop_k (G := Nat × List Int × Option Addr × Nat) (fun gg a w => Fr 93 [(7, some (.slice gg.2.2.1 gg.1 gg.2.2.2)), (8, some (.int .i64 (gg.1 : Int))), (1, some (.slice A l.length c)), (2, some (.pointer (some ⟨bb1, 0, none⟩)))] a ∧ Mem w0.heap.size w0 [(1, some (.ro A (flat2 l))), (2, some (.row bb1 23 #[.int .i64 b, .int .i64 r])), (3, some (.own (.slice gg.2.2.1 gg.1 gg.2.2.2) 3 1 gg.1 (gg.2.1.map (Value.int .i64))))] w ∧ ((gg.1 : Int) ≤ (l.length : Int)) ∧ (gg.2.1 = shUp b r l gg.1) ∧ (∀ j, j < gg.1 → shT b r l j ≤ 1099511627776) ∧ ((gg.2.1.length : Int) = (gg.1 : Int))) (fun gg => l.length - gg.1) (0, [], none, 0) ?_ ?_
          · refine ⟨(((((Fr.nil hF).c hF (i := 2) rfl rfl).c hF (i := 1) rfl rfl).c hF (i := 8) rfl (vi (show (0 : Int) = (0 : Int) from by omega))).c hF (i := 7) rfl rfl), (hM.sub (((Sub.nil.c (k := 3) rfl rfl).c (k := 2) rfl rfl).c (k := 1) rfl rfl)), (show (0 : Int) ≤ (l.length : Int) from by omega), (show ([]) = shUp b r l 0 from by rfl), (show ∀ j, j < 0 → shT b r l j ≤ 1099511627776 from by exact fun j hj => by omega), (show (([]).length : Int) = (0 : Int) from by rfl)⟩
          · intro gg a w hI
            intro K18 hK18
            obtain ⟨m, got, G, gc⟩ := gg
            try dsimp only at hI hK18
            obtain ⟨hF, hM, hz8, hz9, hz10, hz11⟩ := hI
            have hgot : got = shUp b r l m := by assumption
            have hTm : ∀ j, j < m → shT b r l j ≤ 1099511627776 := by assumption
            refine wp_seq_k fun K19 hK19 => ?_
            refine wp_seq_k fun K20 hK20 => ?_
            refine wp_region_lit ?_
            refine sB 4 [(32, .int .i64 (m : Int)), (33, .slice A l.length c), (34, .int .i64 (l.length : Int)), (35, .bool (decide ((m : Int) < (l.length : Int))))] hF (by kernel_rfl) fun a hF => ?_
            refine wpList_nil ?_
            refine hK20 _ _ ?_
            by_cases hz12 : (m : Int) < (l.length : Int)
            · skip
              replace hF := hF.c hF (i := 35) (v := .bool true) rfl (bT hz12)
              refine cT hF (by kernel_rfl) (by kernel_rfl) ?_
              refine wp_skip ?_
              refine hK19 _ _ ?_
              refine wp_seq_k fun K21 hK21 => ?_
              refine wp_block ?_
              refine wp_seq_k fun K22 hK22 => ?_
              have hq := tr_all htr m (by omega)
              have hr0 : rfT b r l m (m - m) = (pr l m).1 := by rw [Nat.sub_self]; rfl
              have hs0 : sumN l (m + 1) = sumN l m + (pr l m).2 := rfl
              refine rQ hM (by kernel_rfl) (by kernel_rfl) ?_
              refine eQ 38 (v0 := .slice A l.length c) (v := .slice A l.length c) hF (by kernel_rfl) (fun _ => by kernel_rfl) rfl fun a hF => ?_
              refine eQ 39 (v0 := .int .i64 (m : Int)) (v := .int .i64 (m : Int)) hF (by kernel_rfl) (fun _ => by kernel_rfl) rfl fun a hF => ?_
              refine eQ2 40 (v := .pointer (some (ea A (m * 2)))) hF (by kernel_rfl) (yld_ix (kd := .i64) (e := 31) (len := l.length) (cap := c) (i := (m : Int)) (size := 2) (A := A) hF rfl (by kernel_rfl) (by kernel_rfl) (by kernel_rfl) (by kernel_rfl) (by kernel_rfl) (roK 1 rfl) (by omega) (by omega) (by rw [flat2_length]; omega)) fun a hF => ?_
              refine eQ 41 (v0 := .pointer (some (ea A (m * 2)))) (v := .pointer (some (ea A (m * 2)))) hF (by kernel_rfl) (fun _ => by kernel_rfl) rfl fun a hF => ?_
              refine eQ2 42 (v := .int .i64 (pr l m).1) hF (by kernel_rfl) (yld_ro1 (A := A) (j := m * 2) hF rfl (by kernel_rfl) (by kernel_rfl) (roK 1 rfl) (by kernel_rfl) (pr_fst (k := m) (by omega) (by omega))) fun a hF => ?_
              refine eQ 43 (v0 := .slice A l.length c) (v := .slice A l.length c) hF (by kernel_rfl) (fun _ => by kernel_rfl) rfl fun a hF => ?_
              refine eQ 44 (v0 := .int .i64 (m : Int)) (v := .int .i64 (m : Int)) hF (by kernel_rfl) (fun _ => by kernel_rfl) rfl fun a hF => ?_
              refine eQ2 45 (v := .pointer (some (ea A (m * 2)))) hF (by kernel_rfl) (yld_ix (kd := .i64) (e := 31) (len := l.length) (cap := c) (i := (m : Int)) (size := 2) (A := A) hF rfl (by kernel_rfl) (by kernel_rfl) (by kernel_rfl) (by kernel_rfl) (by kernel_rfl) (roK 1 rfl) (by omega) (by omega) (by rw [flat2_length]; omega)) fun a hF => ?_
              refine eQ 46 (v0 := .pointer (some (ea A (m * 2 + 1)))) (v := .pointer (some (ea A (m * 2 + 1)))) hF (by kernel_rfl) (fun _ => by kernel_rfl) rfl fun a hF => ?_
              refine eQ2 47 (v := .int .i64 (pr l m).2) hF (by kernel_rfl) (yld_ro1 (A := A) (j := m * 2 + 1) hF rfl (by kernel_rfl) (by kernel_rfl) (roK 1 rfl) (by kernel_rfl) (pr_snd (k := m) (by omega) (by omega))) fun a hF => ?_
              refine eQ 9 (v0 := .int .i64 (pr l m).1) (v := .int .i64 (pr l m).1) hF (by kernel_rfl) (fun _ => by kernel_rfl) rfl fun a hF => ?_
              refine eQ 10 (v0 := .int .i64 (pr l m).2) (v := .int .i64 (pr l m).2) hF (by kernel_rfl) (fun _ => by kernel_rfl) rfl fun a hF => ?_
              refine wpQuiet_nil ?_
              intro w hM
              refine hK22 _ _ ?_
              refine wp_seq_k fun K23 hK23 => ?_
              refine wp_seq_k fun K24 hK24 => ?_
              refine wp_region_lit ?_
              refine sB 1 [(48, .int .i64 (m : Int))] hF (by kernel_rfl) fun a hF => ?_
              refine wl (eP 49 (v0 := .int .i64 (IntKind.i64.wrap ((m : Int) - 1))) (v := .int .i64 ((m : Int) - 1)) hF (by kernel_rfl) (fun _ => by kernel_rfl) (wi (by omega)) fun a hF => ?_)
              refine sB 1 [(11, .int .i64 ((m : Int) - 1))] hF (by kernel_rfl) fun a hF => ?_
              refine wpList_nil ?_
              refine hK24 _ _ ?_
              refine wp_block ?_
              refine wp_loop_k (G := Nat) (fun gg a w => Fr 93 [(9, some (.int .i64 (rfT b r l m (m - gg)))), (10, some (.int .i64 (sumN l (m + 1) - sumN l gg))), (11, some (.int .i64 ((gg : Int) - 1))), (1, some (.slice A l.length c)), (2, some (.pointer (some ⟨bb1, 0, none⟩))), (7, some (.slice G m gc)), (8, some (.int .i64 (m : Int)))] a ∧ Mem w0.heap.size w0 [(1, some (.ro A (flat2 l))), (2, some (.row bb1 23 #[.int .i64 b, .int .i64 r])), (3, some (.own (.slice G m gc) 3 1 m (got.map (Value.int .i64))))] w ∧ ((gg : Int) ≤ (m : Int))) (fun gg => gg) (m) ?_ ?_
              · refine ⟨((((((((Fr.nil hF).c hF (i := 8) rfl rfl).c hF (i := 7) rfl rfl).c hF (i := 2) rfl rfl).c hF (i := 1) rfl rfl).c hF (i := 11) rfl rfl).c hF (i := 10) rfl (vi (show ((pr l m).2 : Int) = sumN l (m + 1) - sumN l m from by omega))).c hF (i := 9) rfl (vi (show ((pr l m).1 : Int) = rfT b r l m (m - m) from by omega))), (hM.sub (((Sub.nil.c (k := 3) rfl rfl).c (k := 2) rfl rfl).c (k := 1) rfl rfl)), (show (m : Int) ≤ (m : Int) from by omega)⟩
              · intro gg a w hI
                intro K25 hK25
                obtain ⟨i, rfl⟩ : ∃ x, x = gg := ⟨_, rfl⟩
                try dsimp only at hI hK25
                obtain ⟨hF, hM, hz13⟩ := hI
                refine wp_seq_k fun K26 hK26 => ?_
                refine wp_seq_k fun K27 hK27 => ?_
                refine wp_region_lit ?_
                refine sB 2 [(50, .int .i64 ((i : Int) - 1)), (51, .bool (decide (0 ≤ (i : Int) - 1)))] hF (by kernel_rfl) fun a hF => ?_
                refine wpList_nil ?_
                refine hK27 _ _ ?_
                by_cases hz14 : 0 ≤ (i : Int) - 1
                · skip
                  replace hF := hF.c hF (i := 51) (v := .bool true) rfl (bT hz14)
                  refine cT hF (by kernel_rfl) (by kernel_rfl) ?_
                  refine wp_skip ?_
                  refine hK26 _ _ ?_
                  refine wp_seq_k fun K28 hK28 => ?_
                  refine wp_block ?_
                  refine wp_seq_k fun K29 hK29 => ?_
                  have hs0 : sumN l i = sumN l (i - 1) + (pr l (i - 1)).2 := sumN_at34 (by omega)
                  have hs1 := sumN_bd htr (m + 1) (by omega)
                  have hs2 := sumN_bd htr (i - 1) (by omega)
                  have hs3 := sumN_mono htr (i := i) (k := m + 1) (by omega) (by omega)
                  have hs4 := tr_all htr (i - 1) (by omega)
                  have hgi : nt got (i - 1) = shT b r l (i - 1) := by rw [hgot]; exact shUp_at (by omega)
                  have hTi := hTm (i - 1) (by omega)
                  have hT0 := (shT_up hbk htr hfit (k := i - 1) (by omega) (fun j hj => hTm j (by omega))).2.2
                  refine wp_region_lit ?_
                  refine sB 3 [(54, .int .i64 (sumN l (m + 1) - sumN l i)), (55, .slice A l.length c), (56, .int .i64 ((i : Int) - 1))] hF (by kernel_rfl) fun a hF => ?_
                  refine wl (eM 57 (v := .pointer (some (ea A ((i - 1) * 2)))) hF hM (by kernel_rfl) (yld_ix (kd := .i64) (e := 31) (len := l.length) (cap := c) (i := (i : Int) - 1) (size := 2) (A := A) hF rfl (by kernel_rfl) (by kernel_rfl) (by kernel_rfl) (by kernel_rfl) (by kernel_rfl) (roK 1 rfl) (by omega) (by omega) (by rw [flat2_length]; omega)) fun a w hF hM => ?_)
                  refine sB 1 [(58, .pointer (some (ea A ((i - 1) * 2 + 1))))] hF (by kernel_rfl) fun a hF => ?_
                  refine wl (eM 59 (v := .int .i64 (pr l (i - 1)).2) hF hM (by kernel_rfl) (yld_ro1 (A := A) (j := (i - 1) * 2 + 1) hF rfl (by kernel_rfl) (by kernel_rfl) (roK 1 rfl) (by kernel_rfl) (pr_snd (k := i - 1) (by omega) (by omega))) fun a w hF hM => ?_)
                  refine wl (eP 60 (v0 := .int .i64 (IntKind.i64.wrap (sumN l (m + 1) - sumN l i + (pr l (i - 1)).2))) (v := .int .i64 (sumN l (m + 1) - sumN l (i - 1))) hF (by kernel_rfl) (fun _ => by kernel_rfl) (vi ((w64 (by omega)).trans (by omega))) fun a hF => ?_)
                  refine sB 1 [(10, .int .i64 (sumN l (m + 1) - sumN l (i - 1)))] hF (by kernel_rfl) fun a hF => ?_
                  refine wpList_nil ?_
                  refine hK29 _ _ ?_
                  refine wp_seq_k fun K30 hK30 => ?_
                  refine wp_region_lit ?_
                  refine sB 3 [(61, .int .i64 (rfT b r l m (m - i))), (62, .slice G m gc), (63, .int .i64 ((i : Int) - 1))] hF (by kernel_rfl) fun a hF => ?_
                  refine wl (eM 64 (v := .pointer (some (ea G (i - 1)))) hF hM (by kernel_rfl) (yld_ix (kd := .i64) (e := 3) (len := m) (cap := gc) (i := (i : Int) - 1) (size := 1) (A := G) hF rfl (by kernel_rfl) (by kernel_rfl) (by kernel_rfl) (by kernel_rfl) (by kernel_rfl) (roO 3 rfl) (by omega) (by omega) (by rw [List.length_map]; omega)) fun a w hF hM => ?_)
                  refine wl (eM 65 (v := .int .i64 (nt got (i - 1))) hF hM (by kernel_rfl) (yld_ro1 (A := G) (j := i - 1) hF rfl (by kernel_rfl) (by kernel_rfl) (roO 3 rfl) (by kernel_rfl) (nt_at (by omega))) fun a w hF hM => ?_)
                  refine wl (eP 66 (v0 := .int .i64 (if nt got (i - 1) > rfT b r l m (m - i) then nt got (i - 1) else rfT b r l m (m - i))) (v := .int .i64 (max (rfT b r l m (m - i)) (nt got (i - 1)))) hF (by kernel_rfl) (fun _ => by kernel_rfl) (vi (max_if _ _)) fun a hF => ?_)
                  refine sB 1 [(9, .int .i64 (max (rfT b r l m (m - i)) (nt got (i - 1))))] hF (by kernel_rfl) fun a hF => ?_
                  refine wpList_nil ?_
                  refine hK30 _ _ ?_
                  refine wp_seq_k fun K31 hK31 => ?_
                  refine wp_region_lit ?_
                  refine sB 2 [(67, .int .i64 (sumN l (m + 1) - sumN l (i - 1))), (68, .pointer (some ⟨bb1, 0, none⟩))] hF (by kernel_rfl) fun a hF => ?_
                  refine wl (eL 69 2 0 (v := .int .i64 b) hF hM (by kernel_rfl) rfl rfl (by kernel_rfl) (by kernel_rfl) fun a w hF hM => ?_)
                  refine sB 1 [(70, .bool (decide (b < sumN l (m + 1) - sumN l (i - 1))))] hF (by kernel_rfl) fun a hF => ?_
                  refine wpList_nil ?_
                  refine hK31 _ _ ?_
                  by_cases hz15 : b < sumN l (m + 1) - sumN l (i - 1)
                  · skip
                    replace hF := hF.c hF (i := 70) (v := .bool true) rfl (bT hz15)
                    refine cT hF (by kernel_rfl) (by kernel_rfl) ?_
                    refine rQ hM (by kernel_rfl) (by kernel_rfl) ?_
                    refine eQ 71 (v0 := .int .i64 (max (rfT b r l m (m - i)) (nt got (i - 1)))) (v := .int .i64 (max (rfT b r l m (m - i)) (nt got (i - 1)))) hF (by kernel_rfl) (fun _ => by kernel_rfl) rfl fun a hF => ?_
                    refine eQ 72 (v0 := .slice G m gc) (v := .slice G m gc) hF (by kernel_rfl) (fun _ => by kernel_rfl) rfl fun a hF => ?_
                    refine eQ 73 (v0 := .int .i64 ((i : Int) - 1)) (v := .int .i64 ((i : Int) - 1)) hF (by kernel_rfl) (fun _ => by kernel_rfl) rfl fun a hF => ?_
                    refine eQ2 74 (v := .pointer (some (ea G (i - 1)))) hF (by kernel_rfl) (yld_ix (kd := .i64) (e := 3) (len := m) (cap := gc) (i := (i : Int) - 1) (size := 1) (A := G) hF rfl (by kernel_rfl) (by kernel_rfl) (by kernel_rfl) (by kernel_rfl) (by kernel_rfl) (roO 3 rfl) (by omega) (by omega) (by rw [List.length_map]; omega)) fun a hF => ?_
                    refine eQ2 75 (v := .int .i64 (nt got (i - 1))) hF (by kernel_rfl) (yld_ro1 (A := G) (j := i - 1) hF rfl (by kernel_rfl) (by kernel_rfl) (roO 3 rfl) (by kernel_rfl) (nt_at (by omega))) fun a hF => ?_
                    refine eQ 76 (v0 := .int .i64 (sumN l (m + 1) - sumN l (i - 1))) (v := .int .i64 (sumN l (m + 1) - sumN l (i - 1))) hF (by kernel_rfl) (fun _ => by kernel_rfl) rfl fun a hF => ?_
                    refine eQ 77 (v0 := .pointer (some ⟨bb1, 0, none⟩)) (v := .pointer (some ⟨bb1, 0, none⟩)) hF (by kernel_rfl) (fun _ => by kernel_rfl) rfl fun a hF => ?_
                    refine eQL 78 2 0 (v := .int .i64 b) hF (by kernel_rfl) rfl rfl (by kernel_rfl) (by kernel_rfl) fun a hF => ?_
                    refine eQ 79 (v0 := .int .i64 (IntKind.i64.wrap (sumN l (m + 1) - sumN l (i - 1) - b))) (v := .int .i64 (sumN l (m + 1) - sumN l (i - 1) - b)) hF (by kernel_rfl) (fun _ => by kernel_rfl) (wi (by omega)) fun a hF => ?_
                    refine eQ 80 (v0 := .int .i64 (IntKind.i64.wrap ((sumN l (m + 1) - sumN l (i - 1) - b) * 1048576))) (v := .int .i64 ((sumN l (m + 1) - sumN l (i - 1) - b) * 1048576)) hF (by kernel_rfl) (fun _ => by kernel_rfl) (wi (by omega)) fun a hF => ?_
                    refine eQ 81 (v0 := .pointer (some ⟨bb1, 1, none⟩)) (v := .pointer (some ⟨bb1, 1, none⟩)) hF (by kernel_rfl) (fun _ => by kernel_rfl) rfl fun a hF => ?_
                    refine eQL 82 2 1 (v := .int .i64 r) hF (by kernel_rfl) rfl rfl (by kernel_rfl) (by kernel_rfl) fun a hF => ?_
                    refine eQ2 83 (v := .int .i64 (cq ((sumN l (m + 1) - sumN l (i - 1) - b) * 1048576) r)) hF (by kernel_rfl) (yld_call (f := 30) (args := #[.int .i64 ((sumN l (m + 1) - sumN l (i - 1) - b) * 1048576), .int .i64 r]) hF (by kernel_rfl) (fun _ => by kernel_rfl) (fun w hM => rCeil4_w ((sumN l (m + 1) - sumN l (i - 1) - b) * 1048576) r w (by omega))) fun a hF => ?_
                    have := cq_in (n := (sumN l (m + 1) - sumN l (i - 1) - b) * 1048576) (d := r) (B := 219902324506624) (by omega) (by omega) (by omega)
                    refine eQ 84 (v0 := .int .i64 (IntKind.i64.wrap (nt got (i - 1) + cq ((sumN l (m + 1) - sumN l (i - 1) - b) * 1048576) r))) (v := .int .i64 (nt got (i - 1) + cq ((sumN l (m + 1) - sumN l (i - 1) - b) * 1048576) r)) hF (by kernel_rfl) (fun _ => by kernel_rfl) (wi (by omega)) fun a hF => ?_
                    refine eQ 85 (v0 := .int .i64 (if nt got (i - 1) + cq ((sumN l (m + 1) - sumN l (i - 1) - b) * 1048576) r > max (rfT b r l m (m - i)) (nt got (i - 1)) then nt got (i - 1) + cq ((sumN l (m + 1) - sumN l (i - 1) - b) * 1048576) r else max (rfT b r l m (m - i)) (nt got (i - 1)))) (v := .int .i64 (max (max (rfT b r l m (m - i)) (nt got (i - 1))) (nt got (i - 1) + cq ((sumN l (m + 1) - sumN l (i - 1) - b) * 1048576) r))) hF (by kernel_rfl) (fun _ => by kernel_rfl) (vi (max_if _ _)) fun a hF => ?_
                    refine eQ 9 (v0 := .int .i64 (max (max (rfT b r l m (m - i)) (nt got (i - 1))) (nt got (i - 1) + cq ((sumN l (m + 1) - sumN l (i - 1) - b) * 1048576) r))) (v := .int .i64 (max (max (rfT b r l m (m - i)) (nt got (i - 1))) (nt got (i - 1) + cq ((sumN l (m + 1) - sumN l (i - 1) - b) * 1048576) r))) hF (by kernel_rfl) (fun _ => by kernel_rfl) rfl fun a hF => ?_
                    refine wpQuiet_nil ?_
                    intro w hM
                    refine hK28 _ _ ?_
                    refine wp_region_lit ?_
                    refine sB 1 [(52, .int .i64 ((i : Int) - 1))] hF (by kernel_rfl) fun a hF => ?_
                    refine wl (eP 53 (v0 := .int .i64 (IntKind.i64.wrap ((i : Int) - 1 - 1))) (v := .int .i64 ((i : Int) - 1 - 1)) hF (by kernel_rfl) (fun _ => by kernel_rfl) (wi (by omega)) fun a hF => ?_)
                    refine sB 1 [(11, .int .i64 ((i : Int) - 1 - 1))] hF (by kernel_rfl) fun a hF => ?_
                    refine wpList_nil ?_
                    obtain ⟨j, hj⟩ : ∃ z : Nat, i = z + 1 := ⟨i - 1, by omega⟩
                    have hji : i - 1 = j := by omega
                    have hrf := rf_yes (b := b) (r := r) (l := l) (m := m) hj (by omega) (by omega)
                    have hsj : sumN l (i - 1) = sumN l j := by rw [hji]
                    refine hK25 _ _ ⟨(j), ⟨((((((((Fr.nil hF).c hF (i := 8) rfl rfl).c hF (i := 7) rfl rfl).c hF (i := 2) rfl rfl).c hF (i := 1) rfl rfl).c hF (i := 11) rfl (vi (show ((i : Int) - 1 - 1 : Int) = (j : Int) - 1 from by omega))).c hF (i := 10) rfl (vi (show (sumN l (m + 1) - sumN l (i - 1) : Int) = sumN l (m + 1) - sumN l j from by omega))).c hF (i := 9) rfl (vi (show (max (max (rfT b r l m (m - i)) (nt got (i - 1))) (nt got (i - 1) + cq ((sumN l (m + 1) - sumN l (i - 1) - b) * 1048576) r) : Int) = rfT b r l m (m - j) from by omega))), (hM.sub (((Sub.nil.c (k := 3) rfl rfl).c (k := 2) rfl rfl).c (k := 1) rfl rfl)), (show (j : Int) ≤ (m : Int) from by omega)⟩, (show j < i from by omega)⟩
                  · skip
                    replace hF := hF.c hF (i := 70) (v := .bool false) rfl (bF hz15)
                    refine cF hF (by kernel_rfl) (by kernel_rfl) ?_
                    refine wp_skip ?_
                    refine hK28 _ _ ?_
                    refine wp_region_lit ?_
                    refine sB 1 [(52, .int .i64 ((i : Int) - 1))] hF (by kernel_rfl) fun a hF => ?_
                    refine wl (eP 53 (v0 := .int .i64 (IntKind.i64.wrap ((i : Int) - 1 - 1))) (v := .int .i64 ((i : Int) - 1 - 1)) hF (by kernel_rfl) (fun _ => by kernel_rfl) (wi (by omega)) fun a hF => ?_)
                    refine sB 1 [(11, .int .i64 ((i : Int) - 1 - 1))] hF (by kernel_rfl) fun a hF => ?_
                    refine wpList_nil ?_
                    obtain ⟨j, hj⟩ : ∃ z : Nat, i = z + 1 := ⟨i - 1, by omega⟩
                    have hji : i - 1 = j := by omega
                    have hrf := rf_no (b := b) (r := r) (l := l) (m := m) hj (by omega) (by omega)
                    have hsj : sumN l (i - 1) = sumN l j := by rw [hji]
                    refine hK25 _ _ ⟨(j), ⟨((((((((Fr.nil hF).c hF (i := 8) rfl rfl).c hF (i := 7) rfl rfl).c hF (i := 2) rfl rfl).c hF (i := 1) rfl rfl).c hF (i := 11) rfl (vi (show ((i : Int) - 1 - 1 : Int) = (j : Int) - 1 from by omega))).c hF (i := 10) rfl (vi (show (sumN l (m + 1) - sumN l (i - 1) : Int) = sumN l (m + 1) - sumN l j from by omega))).c hF (i := 9) rfl (vi (show (max (rfT b r l m (m - i)) (nt got (i - 1)) : Int) = rfT b r l m (m - j) from by omega))), (hM.sub (((Sub.nil.c (k := 3) rfl rfl).c (k := 2) rfl rfl).c (k := 1) rfl rfl)), (show (j : Int) ≤ (m : Int) from by omega)⟩, (show j < i from by omega)⟩
                · skip
                  replace hF := hF.c hF (i := 51) (v := .bool false) rfl (bF hz14)
                  refine cF hF (by kernel_rfl) (by kernel_rfl) ?_
                  refine wp_exit ?_
                  refine hK23 _ _ ?_
                  refine wp_seq_k fun K32 hK32 => ?_
                  refine wp_seq_k fun K33 hK33 => ?_
                  have hre : rfT b r l m (m - i) = shT b r l m := by rw [show m - i = m by omega]; exact rfT_end hbk htr hfit (by omega) hTm
                  refine wp_region_lit ?_
                  refine sB 2 [(86, .int .i64 (rfT b r l m (m - i))), (87, .bool (decide (1099511627776 < rfT b r l m (m - i))))] hF (by kernel_rfl) fun a hF => ?_
                  refine wpList_nil ?_
                  refine hK33 _ _ ?_
                  by_cases hz16 : 1099511627776 < rfT b r l m (m - i)
                  · skip
                    replace hF := hF.c hF (i := 87) (v := .bool true) rfl (bT hz16)
                    refine cT hF (by kernel_rfl) (by kernel_rfl) ?_
                    refine wp_seq_k fun K34 hK34 => ?_
                    refine wp_region_lit ?_
                    refine sB 2 [(4, .slice none 0 0), (5, .int .i64 6)] hF (by kernel_rfl) fun a hF => ?_
                    refine wpList_nil ?_
                    refine hK34 _ _ ?_
                    refine wp_ret ?_
                    refine hR0 _ _ ?_
                    refine ret_of hF hM (.tmp rfl (.tmp rfl (.nil))) ?_
                    exact ⟨ret_eq (by rw [sr_6 hbk htr hfit (fun q => by have h6 := allT_iff.1 q m (by omega); rw [shN_1] at h6; omega)]; rfl), hM.bel⟩
                  · skip
                    replace hF := hF.c hF (i := 87) (v := .bool false) rfl (bF hz16)
                    refine cF hF (by kernel_rfl) (by kernel_rfl) ?_
                    refine wp_skip ?_
                    refine hK32 _ _ ?_
                    refine wp_region_lit ?_
                    refine sB 2 [(88, .slice G m gc), (89, .int .i64 (rfT b r l m (m - i)))] hF (by kernel_rfl) fun a hF => ?_
                    refine wl (eN 90 4 (t := 3) (fun b => .slice (some ⟨b, 0, none⟩) 1 1) #[.int .i64 (rfT b r l m (m - i))] hF hM (by kernel_rfl) (fun _ => by kernel_rfl) fun bb2 a w hF hM => ?_)
                    refine wl (sApp 91 3 (e := 3) (size := 1) (bytes := 8) (z := .int .i64 0) (m := 1) (c := 1) (l := m) (cap := gc) (A := G) (news := [.int .i64 (rfT b r l m (m - i))]) ((got ++ [rfT b r l m (m - i)]).map (Value.int .i64)) hF hM (by kernel_rfl) rfl (by kernel_rfl) (by kernel_rfl) (by kernel_rfl) rfl rfl rfl rfl (roR 4 rfl) (by simp [Value.oneCell']) (by omega) (by decide) (map_snoc' _ _ _) fun AA3 cc3 a w hF hM => ?_)
                    refine sB 1 [(7, .slice AA3 (m + 1) cc3)] hF (by kernel_rfl) fun a hF => ?_
                    refine wpList_nil ?_
                    refine hK21 _ _ ?_
                    refine wp_region_lit ?_
                    refine sB 1 [(36, .int .i64 (m : Int))] hF (by kernel_rfl) fun a hF => ?_
                    refine wl (eP 37 (v0 := .int .i64 (IntKind.i64.wrap ((m : Int) + 1))) (v := .int .i64 ((m : Int) + 1)) hF (by kernel_rfl) (fun _ => by kernel_rfl) (wi (by omega)) fun a hF => ?_)
                    refine sB 1 [(8, .int .i64 ((m : Int) + 1))] hF (by kernel_rfl) fun a hF => ?_
                    refine wpList_nil ?_
                    refine hK18 _ _ ⟨(m + 1, got ++ [rfT b r l m (m - i)], AA3, cc3), ⟨(((((Fr.nil hF).c hF (i := 2) rfl rfl).c hF (i := 1) rfl rfl).c hF (i := 8) rfl (vi (show ((m : Int) + 1 : Int) = ((m + 1) : Int) from by omega))).c hF (i := 7) rfl rfl), (hM.sub (((Sub.nil.c (k := 3) rfl rfl).c (k := 2) rfl rfl).c (k := 1) rfl rfl)), (show ((m + 1) : Int) ≤ (l.length : Int) from by omega), (show (got ++ [rfT b r l m (m - i)]) = shUp b r l (m + 1) from by rw [shUp_succ, ‹got = shUp b r l m›, hre]; rfl), (show ∀ j, j < (m + 1) → shT b r l j ≤ 1099511627776 from by exact T_next (by assumption) (by rw [← hre]; omega)), (show ((got ++ [rfT b r l m (m - i)]).length : Int) = ((m + 1) : Int) from by first | omega | (simp; omega))⟩, (show l.length - (m + 1) < l.length - m from by omega)⟩
            · skip
              replace hF := hF.c hF (i := 35) (v := .bool false) rfl (bF hz12)
              refine cF hF (by kernel_rfl) (by kernel_rfl) ?_
              refine wp_exit ?_
              refine hK16 _ _ ?_
              refine wp_seq_k fun K35 hK35 => ?_
              refine wp_region_lit ?_
              refine sB 3 [(92, .slice G m gc), (4, .slice G m gc), (5, .int .i64 0)] hF (by kernel_rfl) fun a hF => ?_
              refine wpList_nil ?_
              refine hK35 _ _ ?_
              refine wp_ret ?_
              refine hR0 _ _ ?_
              refine ret_of hF hM (.tmp rfl (.tmp rfl (.nil))) ?_
              exact absurd (sr_0 hbk htr hfit (allT_iff.2 (fun j hj => hTm j (by omega)))) h
  · skip
    refine wp_region_lit ?_
    refine wl (eL 12 2 0 (v := .agg #[.int .i64 b, .int .i64 r]) hF hM (by kernel_rfl) rfl rfl (by kernel_rfl) (by kernel_rfl) fun a w hF hM => ?_)
    refine wl (eM 13 (v := .bool false) hF hM (by kernel_rfl) (yld_call (f := 27) (args := #[.agg #[.int .i64 b, .int .i64 r]]) hF (by kernel_rfl) (fun _ => by kernel_rfl) (fun w hM => right_no b r w hz1)) fun a w hF hM => ?_)
    refine sB 1 [(14, .bool true)] hF (by kernel_rfl) fun a hF => ?_
    refine wpList_nil ?_
    refine hK3 _ _ ?_
    refine cT hF (by kernel_rfl) (by kernel_rfl) ?_
    refine wp_seq_k fun K36 hK36 => ?_
    refine wp_region_lit ?_
    refine sB 2 [(4, .slice none 0 0), (5, .int .i64 130)] hF (by kernel_rfl) fun a hF => ?_
    refine wpList_nil ?_
    refine hK36 _ _ ?_
    refine wp_ret ?_
    refine hR0 _ _ ?_
    refine ret_of hF hM (.tmp rfl (.tmp rfl (.nil))) ?_
    exact ⟨ret_eq (by rw [sr_130 hz1]; rfl), hM.bel⟩

set_option maxRecDepth 100000 in
theorem fitting_w (bu ra : Int) (Ga : Option Addr) (gaps : List Int) (cg : Nat) (Sa : Option Addr) (sizes : List Int) (cs : Nat) (w0 : World) (hGa : Ro w0 Ga (gaps.map (Value.int .u16))) (hSa : Ro w0 Sa (sizes.map (Value.int .u16))) (hg : All16 gaps) (hs : All16 sizes) (hmg : gaps.length ≤ 9223372036854775807) (hms : sizes.length ≤ 9223372036854775807) (h : 0 ≤ bu ∧ bu < 4294967296 ∧ 0 ≤ ra ∧ ra < 4294967296) :
    Calls Try.prog 22 #[.agg #[.int .u32 bu, .int .u32 ra, .slice Ga gaps.length cg, .slice Sa sizes.length cs]] w0 (RetOwn w0 (fun v => .tuple #[.agg #[.int .i64 (fbN (1 + bu % 1048576) (drTrace gaps sizes) (drTrace gaps sizes).length), .int .i64 (max (1 + ra % 2097152) 1024)], v]) 31 2 (drTrace gaps sizes).length (flat2 (drTrace gaps sizes))) := by
  refine enterK 32 Try.func22 rfl rfl rfl ?_
  intro a hF Q0 hR0 hN0
  have hM := Mem.start w0
  replace hM := hM.addOld 1 hGa (Nat.le_refl _)
  replace hM := hM.addOld 2 hSa (Nat.le_refl _)
  refine wp_seq_k fun K1 hK1 => ?_
  refine wp_region_lit ?_
  refine wl (eN 1 3 (t := 27) (fun b => .pointer (some ⟨b, 0, none⟩)) #[.int .u32 bu, .int .u32 ra, .slice Ga gaps.length cg, .slice Sa sizes.length cs] hF hM (by kernel_rfl) (fun _ => by kernel_rfl) fun bb1 a w hF hM => ?_)
  refine wl (eN 2 4 (t := 23) (fun b => .pointer (some ⟨b, 0, none⟩)) #[.int .i64 0, .int .i64 0] hF hM (by kernel_rfl) (fun _ => by kernel_rfl) fun bb2 a w hF hM => ?_)
  refine sB 1 [(3, .slice none 0 0)] hF (by kernel_rfl) fun a hF => ?_
  refine wpList_nil ?_
  refine hK1 _ _ ?_
  refine wp_seq_k fun K2 hK2 => ?_
  obtain ⟨dbb, e_dbb⟩ : ∃ x : Int, x = 1 + bu % 1048576 := ⟨_, rfl⟩
  obtain ⟨dbr, e_dbr⟩ : ∃ x : Int, x = 1 + ra % 2097152 := ⟨_, rfl⟩
  have hdb : bkE dbb dbr = 0 := by unfold bkE; omega
  have := bkE_ok hdb
  obtain ⟨ltr, e_ltr⟩ : ∃ x : List (Int × Int), x = drTrace gaps sizes := ⟨_, rfl⟩
  have tr_ltr : trE ltr = 0 := by rw [e_ltr]; exact dr_trE hg hs
  have le_ltr : ltr.length ≤ 30 := by rw [e_ltr]; exact dr_le _ _
  refine rF (by kernel_rfl) (by kernel_rfl) (fun S a w => ∃ AA3 : Option Addr, ∃ cc3 : Nat, ∃ bb4 : Nat, Fr 32 [(1, some (.pointer (some ⟨bb1, 0, none⟩))), (2, some (.pointer (some ⟨bb2, 0, none⟩))), (3, some (.slice none 0 0)), (4, (cond (S.getD 4 false) (some (.pointer (some ⟨bb4, 0, none⟩))) none)), (5, (cond (S.getD 6 false) (some (.slice AA3 ltr.length cc3)) none)), (7, (cond (S.getD 0 false) (some (.agg #[.int .u32 bu, .int .u32 ra, .slice Ga gaps.length cg, .slice Sa sizes.length cs])) none)), (8, (cond (S.getD 1 false) (some (.agg #[.int .i64 dbb, .int .i64 dbr])) none)), (9, (cond (S.getD 2 false) (some (.agg #[.int .u32 bu, .int .u32 ra, .slice Ga gaps.length cg, .slice Sa sizes.length cs])) none)), (10, (cond (S.getD 3 false) (some (.slice AA3 ltr.length cc3)) none))] a ∧ Mem w0.heap.size w0 [(1, some (.ro Ga (gaps.map (Value.int .u16)))), (2, some (.ro Sa (sizes.map (Value.int .u16)))), (3, some (.row bb1 27 #[.int .u32 bu, .int .u32 ra, .slice Ga gaps.length cg, .slice Sa sizes.length cs])), (4, some (.row bb2 23 #[.int .i64 0, .int .i64 0])), (5, (cond (S.getD 3 false) (some (.own (.slice AA3 ltr.length cc3) 31 2 ltr.length (flat2 ltr))) none)), (6, (cond (S.getD 5 false) (some (.row bb4 23 #[.int .i64 dbb, .int .i64 dbr])) (cond (S.getD 4 false) (some (.row bb4 23 #[.int .i64 0, .int .i64 0])) none)))] w) ?_ ?_ ?_
  · exact ⟨none, 0, 0, ((((((((((Fr.nil hF).co hF (i := 10) (by kernel_rfl)).co hF (i := 9) (by kernel_rfl)).co hF (i := 8) (by kernel_rfl)).co hF (i := 7) (by kernel_rfl)).co hF (i := 5) (by kernel_rfl)).co hF (i := 4) (by kernel_rfl)).co hF (i := 3) (by kernel_rfl)).co hF (i := 2) (by kernel_rfl)).co hF (i := 1) (by kernel_rfl)), hM.drew.sub ((((((Sub.nil.co (k := 6) (by kernel_rfl)).co (k := 5) (by kernel_rfl)).co (k := 4) (by kernel_rfl)).co (k := 3) (by kernel_rfl)).co (k := 2) (by kernel_rfl)).co (k := 1) (by kernel_rfl))⟩
  · refine stC ?_ (stC ?_ (stC ?_ (stC ?_ (stC ?_ (stC ?_ (stC ?_ (trivial)))))))
    · intro s0 s1 s2 s3 s4 s5 s6 hc hi hp a w hS
      obtain rfl : s0 = false := hi
      obtain ⟨AA3, cc3, bb4, hF, hM⟩ := hS
      refine eL 7 3 0 (v := .agg #[.int .u32 bu, .int .u32 ra, .slice Ga gaps.length cg, .slice Sa sizes.length cs]) hF hM (by kernel_rfl) rfl rfl (by kernel_rfl) (by kernel_rfl) fun a w hF hM => ?_
      exact ⟨AA3, cc3, bb4, ((hF.repl 5 (by kernel_rfl)).cast (by kernel_rfl)), (hM.cast (by kernel_rfl))⟩
    · intro s0 s1 s2 s3 s4 s5 s6 hc hi hp a w hS
      obtain rfl : s1 = false := hi
      obtain rfl : s0 = true := hp 0 (by kernel_rfl)
      obtain ⟨AA3, cc3, bb4, hF, hM⟩ := hS
      refine eM 8 (v := .agg #[.int .i64 dbb, .int .i64 dbr]) hF hM (by kernel_rfl) (yld_call (f := 9) (args := #[.agg #[.int .u32 bu, .int .u32 ra, .slice Ga gaps.length cg, .slice Sa sizes.length cs]]) hF (by kernel_rfl) (fun _ => by kernel_rfl) (fun w hM => by rw [e_dbb, e_dbr]; exact draftBucket_w bu ra (.slice Ga gaps.length cg) (.slice Sa sizes.length cs) w (by omega))) fun a w hF hM => ?_
      exact ⟨AA3, cc3, bb4, ((hF.repl 6 (by kernel_rfl)).cast (by kernel_rfl)), (hM.cast (by kernel_rfl))⟩
    · intro s0 s1 s2 s3 s4 s5 s6 hc hi hp a w hS
      obtain rfl : s2 = false := hi
      obtain ⟨AA3, cc3, bb4, hF, hM⟩ := hS
      refine eL 9 3 0 (v := .agg #[.int .u32 bu, .int .u32 ra, .slice Ga gaps.length cg, .slice Sa sizes.length cs]) hF hM (by kernel_rfl) rfl rfl (by kernel_rfl) (by kernel_rfl) fun a w hF hM => ?_
      exact ⟨AA3, cc3, bb4, ((hF.repl 7 (by kernel_rfl)).cast (by kernel_rfl)), (hM.cast (by kernel_rfl))⟩
    · intro s0 s1 s2 s3 s4 s5 s6 hc hi hp a w hS
      obtain rfl : s3 = false := hi
      obtain rfl : s2 = true := hp 2 (by kernel_rfl)
      obtain rfl : s6 = false := hc.f 6 3 (by kernel_rfl) rfl
      obtain ⟨AA3, cc3, bb4, hF, hM⟩ := hS
      refine sOwn 5 (f := 17) (args := #[.agg #[.int .u32 bu, .int .u32 ra, .slice Ga gaps.length cg, .slice Sa sizes.length cs]]) (mk := fun v => v) (e := 31) (size := 2) (m := ltr.length) (xs := (flat2 ltr)) hF hM (by kernel_rfl) rfl (by decide) (by kernel_rfl) (fun _ => by kernel_rfl) (by rw [e_ltr]; exact draftTrace_w bu ra Ga gaps cg Sa sizes cs w (hM.ok 1 _ rfl) (hM.ok 2 _ rfl) hg hs (by omega) (by omega)) fun AA3 cc3 a w hF hM => ?_
      exact ⟨AA3, cc3, bb4, ((hF.repl 8 (by kernel_rfl)).cast (by kernel_rfl)), ((hM.repl 4 (by kernel_rfl)).cast (by kernel_rfl))⟩
    · intro s0 s1 s2 s3 s4 s5 s6 hc hi hp a w hS
      obtain rfl : s4 = false := hi
      obtain rfl : s5 = false := hc.f 5 4 (by kernel_rfl) rfl
      obtain ⟨AA3, cc3, bb4, hF, hM⟩ := hS
      refine eN 4 6 (t := 23) (fun b => .pointer (some ⟨b, 0, none⟩)) #[.int .i64 0, .int .i64 0] hF hM (by kernel_rfl) (fun _ => by kernel_rfl) fun bb4 a w hF hM => ?_
      exact ⟨AA3, cc3, bb4, ((hF.repl 3 (by kernel_rfl)).cast (by kernel_rfl)), ((hM.repl 5 (by kernel_rfl)).cast (by kernel_rfl))⟩
    · intro s0 s1 s2 s3 s4 s5 s6 hc hi hp a w hS
      obtain rfl : s5 = false := hi
      obtain rfl : s4 = true := hp 4 (by kernel_rfl)
      obtain rfl : s1 = true := hp 1 (by kernel_rfl)
      obtain ⟨AA3, cc3, bb4, hF, hM⟩ := hS
      refine sStore (i := 6) (off := 0) (cs' := #[.int .i64 dbb, .int .i64 dbr]) hF hM (by kernel_rfl) rfl rfl (by kernel_rfl) (by kernel_rfl) rfl (by kernel_rfl) fun w hM => ?_
      exact ⟨AA3, cc3, bb4, (hF.cast (by kernel_rfl)), ((hM.repl 5 (by kernel_rfl)).cast (by kernel_rfl))⟩
    · intro s0 s1 s2 s3 s4 s5 s6 hc hi hp a w hS
      obtain rfl : s6 = false := hi
      obtain rfl : s3 = true := hp 3 (by kernel_rfl)
      obtain ⟨AA3, cc3, bb4, hF, hM⟩ := hS
      refine eP 5 (v0 := .slice AA3 ltr.length cc3) (v := .slice AA3 ltr.length cc3) hF (by kernel_rfl) (fun _ => by kernel_rfl) rfl fun a hF => ?_
      exact ⟨AA3, cc3, bb4, ((hF.repl 4 (by kernel_rfl)).cast (by kernel_rfl)), (hM.cast (by kernel_rfl))⟩
  · intro a w hS
    obtain ⟨AA3, cc3, bb4, hF, hM⟩ := hS
    replace hF : Fr 32 [(1, some (.pointer (some ⟨bb1, 0, none⟩))), (2, some (.pointer (some ⟨bb2, 0, none⟩))), (3, some (.slice none 0 0)), (4, some (.pointer (some ⟨bb4, 0, none⟩))), (5, some (.slice AA3 ltr.length cc3)), (7, some (.agg #[.int .u32 bu, .int .u32 ra, .slice Ga gaps.length cg, .slice Sa sizes.length cs])), (8, some (.agg #[.int .i64 dbb, .int .i64 dbr])), (9, some (.agg #[.int .u32 bu, .int .u32 ra, .slice Ga gaps.length cg, .slice Sa sizes.length cs])), (10, some (.slice AA3 ltr.length cc3))] a := hF.cast (by kernel_rfl)
    replace hM : Mem w0.heap.size w0 [(1, some (.ro Ga (gaps.map (Value.int .u16)))), (2, some (.ro Sa (sizes.map (Value.int .u16)))), (3, some (.row bb1 27 #[.int .u32 bu, .int .u32 ra, .slice Ga gaps.length cg, .slice Sa sizes.length cs])), (4, some (.row bb2 23 #[.int .i64 0, .int .i64 0])), (5, some (.own (.slice AA3 ltr.length cc3) 31 2 ltr.length (flat2 ltr))), (6, some (.row bb4 23 #[.int .i64 dbb, .int .i64 dbr]))] w := hM.cast (by kernel_rfl)
    refine hK2 _ _ ?_
    refine wp_seq_k fun K3 hK3 => ?_
    refine wp_seq_k fun K4 hK4 => ?_
    refine wp_region_lit ?_
    refine sB 1 [(6, .int .i64 0)] hF (by kernel_rfl) fun a hF => ?_
    refine wpList_nil ?_
    refine hK4 _ _ ?_
    refine wp_block ?_
    refine wp_loop_k (G := Nat) (fun gg a w => Fr 32 [(6, some (.int .i64 (gg : Int))), (2, some (.pointer (some ⟨bb2, 0, none⟩))), (3, some (.slice none 0 0)), (4, some (.pointer (some ⟨bb4, 0, none⟩))), (5, some (.slice AA3 ltr.length cc3))] a ∧ Mem w0.heap.size w0 [(1, some (.ro Ga (gaps.map (Value.int .u16)))), (2, some (.ro Sa (sizes.map (Value.int .u16)))), (4, some (.row bb2 23 #[.int .i64 0, .int .i64 0])), (5, some (.own (.slice AA3 ltr.length cc3) 31 2 ltr.length (flat2 ltr))), (6, some (.row bb4 23 #[.int .i64 (fbN dbb ltr gg), .int .i64 dbr]))] w ∧ ((gg : Int) ≤ (ltr.length : Int))) (fun gg => ltr.length - gg) (0) ?_ ?_
    · refine ⟨((((((Fr.nil hF).c hF (i := 5) rfl rfl).c hF (i := 4) rfl rfl).c hF (i := 3) rfl rfl).c hF (i := 2) rfl rfl).c hF (i := 6) rfl (vi (show (0 : Int) = (0 : Int) from by omega))), (hM.sub (((((Sub.nil.c (k := 6) rfl rfl).c (k := 5) rfl rfl).c (k := 4) rfl rfl).c (k := 2) rfl rfl).c (k := 1) rfl rfl)), (show (0 : Int) ≤ (ltr.length : Int) from by omega)⟩
    · intro gg a w hI
      intro K5 hK5
      obtain ⟨k, rfl⟩ : ∃ x, x = gg := ⟨_, rfl⟩
      try dsimp only at hI hK5
      obtain ⟨hF, hM, hz1⟩ := hI
      refine wp_seq_k fun K6 hK6 => ?_
      refine wp_seq_k fun K7 hK7 => ?_
      refine wp_region_lit ?_
      refine sB 4 [(11, .int .i64 (k : Int)), (12, .slice AA3 ltr.length cc3), (13, .int .i64 (ltr.length : Int)), (14, .bool (decide ((k : Int) < (ltr.length : Int))))] hF (by kernel_rfl) fun a hF => ?_
      refine wpList_nil ?_
      refine hK7 _ _ ?_
      by_cases hz2 : (k : Int) < (ltr.length : Int)
      · skip
        replace hF := hF.c hF (i := 14) (v := .bool true) rfl (bT hz2)
        refine cT hF (by kernel_rfl) (by kernel_rfl) ?_
        refine wp_skip ?_
        refine hK6 _ _ ?_
        refine wp_seq_k fun K8 hK8 => ?_
        refine wp_block ?_
        refine rT 9 (by kernel_rfl) (by kernel_rfl) hM.drew ?_
        refine eQ 17 (v0 := .pointer (some ⟨bb4, 0, none⟩)) (v := .pointer (some ⟨bb4, 0, none⟩)) hF (by kernel_rfl) (fun _ => by kernel_rfl) rfl fun a hF => ?_
        refine eQL 18 6 0 (v := .int .i64 (fbN dbb ltr k)) hF (by kernel_rfl) rfl rfl (by kernel_rfl) (by kernel_rfl) fun a hF => ?_
        refine eQ 19 (v0 := .slice AA3 ltr.length cc3) (v := .slice AA3 ltr.length cc3) hF (by kernel_rfl) (fun _ => by kernel_rfl) rfl fun a hF => ?_
        refine eQ 20 (v0 := .int .i64 (k : Int)) (v := .int .i64 (k : Int)) hF (by kernel_rfl) (fun _ => by kernel_rfl) rfl fun a hF => ?_
        refine eQ2 21 (v := .pointer (some (ea AA3 (k * 2)))) hF (by kernel_rfl) (yld_ix (kd := .i64) (e := 31) (len := ltr.length) (cap := cc3) (i := (k : Int)) (size := 2) (A := AA3) hF rfl (by kernel_rfl) (by kernel_rfl) (by kernel_rfl) (by kernel_rfl) (by kernel_rfl) (roO 5 rfl) (by omega) (by omega) (by rw [flat2_length]; omega)) fun a hF => ?_
        refine eQ 22 (v0 := .pointer (some (ea AA3 (k * 2 + 1)))) (v := .pointer (some (ea AA3 (k * 2 + 1)))) hF (by kernel_rfl) (fun _ => by kernel_rfl) rfl fun a hF => ?_
        refine eQ2 23 (v := .int .i64 (pr ltr k).2) hF (by kernel_rfl) (yld_ro1 (A := AA3) (j := k * 2 + 1) hF rfl (by kernel_rfl) (by kernel_rfl) (roO 5 rfl) (by kernel_rfl) (pr_snd (k := k) (by omega) (by omega))) fun a hF => ?_
        refine eQ 24 (v0 := .int .i64 (if (pr ltr k).2 > fbN dbb ltr k then (pr ltr k).2 else fbN dbb ltr k)) (v := .int .i64 (max (fbN dbb ltr k) (pr ltr k).2)) hF (by kernel_rfl) (fun _ => by kernel_rfl) (vi (max_if _ _)) fun a hF => ?_
        refine eQ 25 (v0 := .pointer (some ⟨bb4, 0, none⟩)) (v := .pointer (some ⟨bb4, 0, none⟩)) hF (by kernel_rfl) (fun _ => by kernel_rfl) rfl fun a hF => ?_
        refine wpQuiet_nil ?_
        intro w hM
        refine wl (sStore (i := 6) (off := 0) (cs' := #[.int .i64 (max (fbN dbb ltr k) (pr ltr k).2), .int .i64 dbr]) hF hM (by kernel_rfl) rfl rfl (by kernel_rfl) (by kernel_rfl) rfl (by kernel_rfl) fun w hM => ?_)
        refine wpList_nil ?_
        refine hK8 _ _ ?_
        refine wp_region_lit ?_
        refine sB 1 [(15, .int .i64 (k : Int))] hF (by kernel_rfl) fun a hF => ?_
        refine wl (eP 16 (v0 := .int .i64 (IntKind.i64.wrap ((k : Int) + 1))) (v := .int .i64 ((k : Int) + 1)) hF (by kernel_rfl) (fun _ => by kernel_rfl) (wi (by omega)) fun a hF => ?_)
        refine sB 1 [(6, .int .i64 ((k : Int) + 1))] hF (by kernel_rfl) fun a hF => ?_
        refine wpList_nil ?_
        refine hK5 _ _ ⟨(k + 1), ⟨((((((Fr.nil hF).c hF (i := 5) rfl rfl).c hF (i := 4) rfl rfl).c hF (i := 3) rfl rfl).c hF (i := 2) rfl rfl).c hF (i := 6) rfl (vi (show ((k : Int) + 1 : Int) = ((k + 1) : Int) from by omega))), (hM.sub (((((Sub.nil.c (k := 6) rfl rfl).c (k := 5) rfl rfl).c (k := 4) rfl rfl).c (k := 2) rfl rfl).c (k := 1) rfl rfl)), (show ((k + 1) : Int) ≤ (ltr.length : Int) from by omega)⟩, (show ltr.length - (k + 1) < ltr.length - k from by omega)⟩
      · skip
        replace hF := hF.c hF (i := 14) (v := .bool false) rfl (bF hz2)
        refine cF hF (by kernel_rfl) (by kernel_rfl) ?_
        refine wp_exit ?_
        refine hK3 _ _ ?_
        refine wp_seq_k fun K9 hK9 => ?_
        refine wp_region_lit ?_
        refine sB 1 [(26, .pointer (some ⟨bb4, 1, none⟩))] hF (by kernel_rfl) fun a hF => ?_
        refine wl (eL 27 6 1 (v := .int .i64 dbr) hF hM (by kernel_rfl) rfl rfl (by kernel_rfl) (by kernel_rfl) fun a w hF hM => ?_)
        refine wl (eP 28 (v0 := .int .i64 (if 1024 > dbr then 1024 else dbr)) (v := .int .i64 (max dbr 1024)) hF (by kernel_rfl) (fun _ => by kernel_rfl) (vi (max_if _ _)) fun a hF => ?_)
        refine sB 1 [(29, .pointer (some ⟨bb4, 1, none⟩))] hF (by kernel_rfl) fun a hF => ?_
        refine wl (sStore (i := 6) (off := 1) (cs' := #[.int .i64 (fbN dbb ltr k), .int .i64 (max dbr 1024)]) hF hM (by kernel_rfl) rfl rfl (by kernel_rfl) (by kernel_rfl) rfl (by kernel_rfl) fun w hM => ?_)
        refine wpList_nil ?_
        refine hK9 _ _ ?_
        refine wp_seq_k fun K10 hK10 => ?_
        refine wp_region_lit ?_
        refine wl (eL 30 6 0 (v := .agg #[.int .i64 (fbN dbb ltr k), .int .i64 (max dbr 1024)]) hF hM (by kernel_rfl) rfl rfl (by kernel_rfl) (by kernel_rfl) fun a w hF hM => ?_)
        refine sB 1 [(31, .slice AA3 ltr.length cc3)] hF (by kernel_rfl) fun a hF => ?_
        refine wl (sStore (i := 4) (off := 0) (cs' := #[.int .i64 (fbN dbb ltr k), .int .i64 (max dbr 1024)]) hF hM (by kernel_rfl) rfl rfl (by kernel_rfl) (by kernel_rfl) rfl (by kernel_rfl) fun w hM => ?_)
        refine sB 1 [(3, .slice AA3 ltr.length cc3)] hF (by kernel_rfl) fun a hF => ?_
        refine wpList_nil ?_
        refine hK10 _ _ ?_
        refine wp_ret ?_
        refine hR0 _ _ ?_
        refine ret_of hF hM (.cell (i := 4) rfl rfl (v := .agg #[.int .i64 (fbN dbb ltr k), .int .i64 (max dbr 1024)]) (by kernel_rfl) (.tmp rfl (.nil))) ?_
        have hk : k = ltr.length := by omega
        have ho := hM.ok 5 _ rfl
        exact ⟨_, _, by rw [← e_ltr, ← e_dbb, ← e_dbr, ← hk]; rfl, by rw [← e_ltr]; exact ho, hM.bel⟩

theorem cf_ck34 {b r : Int} {l : List (Int × Int)} (h : cfB b r l = true) : ckE b r l = 0 := (cf_iff.1 h).1
theorem conforms34_w (b r : Int) (A : Option Addr) (l : List (Int × Int)) (c : Nat) (w0 : World) (hA : Ro w0 A (flat2 l)) :
    Calls Try.prog 25 #[.agg #[.int .i64 b, .int .i64 r], .slice A l.length c] w0 (Ret w0 (.bool (cfB b r l))) := by
  refine enterK 18 Try.func25 rfl rfl rfl ?_
  intro a hF Q0 hR0 hN0
  have hM := Mem.start w0
  replace hM := hM.addOld 1 hA (Nat.le_refl _)
  refine wp_seq_k fun K1 hK1 => ?_
  refine wp_region_lit ?_
  refine wl (eN 2 2 (t := 23) (fun b => .pointer (some ⟨b, 0, none⟩)) #[.int .i64 b, .int .i64 r] hF hM (by kernel_rfl) (fun _ => by kernel_rfl) fun bb1 a w hF hM => ?_)
  refine sB 1 [(4, .bool false)] hF (by kernel_rfl) fun a hF => ?_
  refine wpList_nil ?_
  refine hK1 _ _ ?_
  refine wp_seq_k fun K2 hK2 => ?_
  refine wp_region_lit ?_
  refine wl (eL 8 2 0 (v := .agg #[.int .i64 b, .int .i64 r]) hF hM (by kernel_rfl) rfl rfl (by kernel_rfl) (by kernel_rfl) fun a w hF hM => ?_)
  refine sB 1 [(9, .slice A l.length c)] hF (by kernel_rfl) fun a hF => ?_
  refine wl (eM 10 (v := .tuple #[.bool (cfB b r l), .int .i64 (ckE b r l)]) hF hM (by kernel_rfl) (yld_call (f := 35) (args := #[.agg #[.int .i64 b, .int .i64 r], .slice A l.length c]) hF (by kernel_rfl) (fun _ => by kernel_rfl) (fun w hM => conforms_w b r A l _ w (hM.ok 1 _ rfl))) fun a w hF hM => ?_)
  refine sB 5 [(7, .tuple #[.bool (cfB b r l), .int .i64 (ckE b r l)]), (11, .bool (cfB b r l)), (12, .int .i64 (ckE b r l)), (5, .bool (cfB b r l)), (6, .int .i64 (ckE b r l))] hF (by kernel_rfl) fun a hF => ?_
  refine wpList_nil ?_
  refine hK2 _ _ ?_
  refine wp_seq_k fun K3 hK3 => ?_
  cases hz1 : (cfB b r l)
  · skip
    replace hF := hF.c hF (i := 5) (v := .bool false) rfl (congrArg Value.bool hz1)
    replace hF := hF.c hF (i := 11) (v := .bool false) rfl (congrArg Value.bool hz1)
    refine wp_region_lit ?_
    refine sB 6 [(13, .bool false), (14, .bool false), (15, undef), (16, undef), (17, .bool false), (4, .bool false)] hF (by kernel_rfl) fun a hF => ?_
    refine wpList_nil ?_
    refine hK3 _ _ ?_
    refine wp_ret ?_
    refine hR0 _ _ ?_
    refine ret_of hF hM (.tmp rfl (.nil)) ?_
    exact ⟨ret_bool ((hz1).symm), hM.bel⟩
  · skip
    replace hF := hF.c hF (i := 5) (v := .bool true) rfl (congrArg Value.bool hz1)
    replace hF := hF.c hF (i := 11) (v := .bool true) rfl (congrArg Value.bool hz1)
    refine wp_region_lit ?_
    refine sB 6 [(13, .bool true), (14, .bool true), (15, .int .i64 (ckE b r l)), (16, .bool (decide (ckE b r l = 0))), (17, .bool (decide (ckE b r l = 0))), (4, .bool (decide (ckE b r l = 0)))] hF (by kernel_rfl) fun a hF => ?_
    refine wpList_nil ?_
    refine hK3 _ _ ?_
    refine wp_ret ?_
    refine hR0 _ _ ?_
    refine ret_of hF hM (.tmp rfl (.nil)) ?_
    exact ⟨ret_bool (by rw [hz1, cf_ck34 hz1]; rfl), hM.bel⟩

end Go.Proofs.Ytaekcgapbkmepaa
