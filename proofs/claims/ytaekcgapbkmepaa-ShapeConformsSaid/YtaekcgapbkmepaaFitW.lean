/-
  The reference Fits.
-/
import Derived.Test.YtaekcgapbkmepaaConfPlain
import Derived.Test.YtaekcgapbkmepaaFlat
namespace Go.Proofs.Ytaekcgapbkmepaa
open Go.RowKit
set_option linter.unusedVariables false
set_option linter.unusedSimpArgs false

theorem fits_w (b r : Int) (A : Option Addr) (l : List (Int × Int)) (c : Nat) (w0 : World) (hA : Ro w0 A (flat2 l)) (hck : ckE b r l = 0) :
    Calls Try.prog 31 #[.agg #[.int .i64 b, .int .i64 r], .slice A l.length c] w0 (Ret w0 (.bool (cfB b r l))) := by
  have htr := ckE_tr hck
  have hbk := ckE_bk hck
  have hlen := (trE_ok htr).1
  refine enterK 48 Try.func31 rfl rfl rfl ?_
  intro a hF Q0 hR0 hN0
  have hM := Mem.start w0
  replace hM := hM.addOld 1 hA (Nat.le_refl _)
  refine wp_seq_k fun K1 hK1 => ?_
  refine wp_region_lit ?_
  refine wl (eN 2 2 (t := 23) (fun b => .pointer (some ⟨b, 0, none⟩)) #[.int .i64 b, .int .i64 r] hF hM (by kernel_rfl) (fun _ => by kernel_rfl) fun bb1 a w hF hM => ?_)
  refine sB 1 [(4, .bool false)] hF (by kernel_rfl) fun a hF => ?_
  refine wpList_nil ?_
  refine hK1 _ _ ?_
  refine wp_seq_k fun K2 hK2 => ?_
  refine wp_seq_k fun K3 hK3 => ?_
  refine wp_region_lit ?_
  refine sB 1 [(5, .int .i64 0)] hF (by kernel_rfl) fun a hF => ?_
  refine wpList_nil ?_
  refine hK3 _ _ ?_
  refine wp_block ?_
  refine wp_loop_k (G := Nat) (fun gg a w => Fr 48 [(5, some (.int .i64 (gg : Int))), (1, some (.slice A l.length c)), (2, some (.pointer (some ⟨bb1, 0, none⟩)))] a ∧ Mem w0.heap.size w0 [(1, some (.ro A (flat2 l))), (2, some (.row bb1 23 #[.int .i64 b, .int .i64 r]))] w ∧ ((gg : Int) ≤ (l.length : Int)) ∧ (OkTo b r l gg gg)) (fun gg => l.length - gg) (0) ?_ ?_
  · refine ⟨((((Fr.nil hF).c hF (i := 2) rfl rfl).c hF (i := 1) rfl rfl).c hF (i := 5) rfl (vi (show (0 : Int) = (0 : Int) from by omega))), (hM.sub ((Sub.nil.c (k := 2) rfl rfl).c (k := 1) rfl rfl)), (show (0 : Int) ≤ (l.length : Int) from by omega), (show OkTo b r l 0 0 from by exact OkTo.zero b r l)⟩
  · intro gg a w hI
    intro K4 hK4
    obtain ⟨i, rfl⟩ : ∃ x, x = gg := ⟨_, rfl⟩
    try dsimp only at hI hK4
    obtain ⟨hF, hM, hz1, hz2⟩ := hI
    refine wp_seq_k fun K5 hK5 => ?_
    refine wp_seq_k fun K6 hK6 => ?_
    refine wp_region_lit ?_
    refine sB 4 [(8, .int .i64 (i : Int)), (9, .slice A l.length c), (10, .int .i64 (l.length : Int)), (11, .bool (decide ((i : Int) < (l.length : Int))))] hF (by kernel_rfl) fun a hF => ?_
    refine wpList_nil ?_
    refine hK6 _ _ ?_
    by_cases hz3 : (i : Int) < (l.length : Int)
    · skip
      replace hF := hF.c hF (i := 11) (v := .bool true) rfl (bT hz3)
      refine cT hF (by kernel_rfl) (by kernel_rfl) ?_
      refine wp_skip ?_
      refine hK5 _ _ ?_
      refine wp_seq_k fun K7 hK7 => ?_
      refine wp_block ?_
      refine wp_seq_k fun K8 hK8 => ?_
      refine wp_region_lit ?_
      refine sB 1 [(6, .int .i64 0)] hF (by kernel_rfl) fun a hF => ?_
      refine wpList_nil ?_
      refine hK8 _ _ ?_
      refine wp_seq_k fun K9 hK9 => ?_
      refine wp_region_lit ?_
      refine sB 2 [(14, .int .i64 (i : Int)), (7, .int .i64 (i : Int))] hF (by kernel_rfl) fun a hF => ?_
      refine wpList_nil ?_
      refine hK9 _ _ ?_
      refine wp_block ?_
      refine wp_loop_k (G := Nat) (fun gg a w => Fr 48 [(6, some (.int .i64 (sumN l gg - sumN l i))), (7, some (.int .i64 (gg : Int))), (1, some (.slice A l.length c)), (2, some (.pointer (some ⟨bb1, 0, none⟩))), (5, some (.int .i64 (i : Int)))] a ∧ Mem w0.heap.size w0 [(1, some (.ro A (flat2 l))), (2, some (.row bb1 23 #[.int .i64 b, .int .i64 r]))] w ∧ ((gg : Int) ≤ (l.length : Int)) ∧ ((i : Int) ≤ (gg : Int)) ∧ (OkTo b r l i gg)) (fun gg => l.length - gg) (i) ?_ ?_
      · refine ⟨((((((Fr.nil hF).c hF (i := 5) rfl rfl).c hF (i := 2) rfl rfl).c hF (i := 1) rfl rfl).c hF (i := 7) rfl rfl).c hF (i := 6) rfl (vi (show (0 : Int) = sumN l i - sumN l i from by omega))), (hM.sub ((Sub.nil.c (k := 2) rfl rfl).c (k := 1) rfl rfl)), (show (i : Int) ≤ (l.length : Int) from by omega), (show (i : Int) ≤ (i : Int) from by omega), (show OkTo b r l i i from by assumption)⟩
      · intro gg a w hI
        intro K10 hK10
        obtain ⟨j, rfl⟩ : ∃ x, x = gg := ⟨_, rfl⟩
        try dsimp only at hI hK10
        obtain ⟨hF, hM, hz4, hz5, hz6⟩ := hI
        refine wp_seq_k fun K11 hK11 => ?_
        refine wp_seq_k fun K12 hK12 => ?_
        refine wp_region_lit ?_
        refine sB 4 [(15, .int .i64 (j : Int)), (16, .slice A l.length c), (17, .int .i64 (l.length : Int)), (18, .bool (decide ((j : Int) < (l.length : Int))))] hF (by kernel_rfl) fun a hF => ?_
        refine wpList_nil ?_
        refine hK12 _ _ ?_
        by_cases hz7 : (j : Int) < (l.length : Int)
        · skip
          replace hF := hF.c hF (i := 18) (v := .bool true) rfl (bT hz7)
          refine cT hF (by kernel_rfl) (by kernel_rfl) ?_
          refine wp_skip ?_
          refine hK11 _ _ ?_
          refine wp_seq_k fun K13 hK13 => ?_
          refine wp_block ?_
          refine wp_seq_k fun K14 hK14 => ?_
          have hs1 := sumN_bd htr j (by omega)
          have hs2 := sumN_bd htr i (by omega)
          have hs3 := sumN_mono htr (i := i) (k := j) (by omega) (by omega)
          have hs4 := at_mono htr (i := i) (k := j) (by omega) (by omega)
          have hs5 := tr_all htr j (by omega)
          have hs6 := tr_all htr i (by omega)
          refine wp_region_lit ?_
          refine sB 3 [(21, .int .i64 (sumN l j - sumN l i)), (22, .slice A l.length c), (23, .int .i64 (j : Int))] hF (by kernel_rfl) fun a hF => ?_
          refine wl (eM 24 (v := .pointer (some (ea A (j * 2)))) hF hM (by kernel_rfl) (yld_ix (kd := .i64) (e := 31) (len := l.length) (cap := c) (i := (j : Int)) (size := 2) (A := A) hF rfl (by kernel_rfl) (by kernel_rfl) (by kernel_rfl) (by kernel_rfl) (by kernel_rfl) (roK 1 rfl) (by omega) (by omega) (by rw [flat2_length]; omega)) fun a w hF hM => ?_)
          refine sB 1 [(25, .pointer (some (ea A (j * 2 + 1))))] hF (by kernel_rfl) fun a hF => ?_
          refine wl (eM 26 (v := .int .i64 (pr l j).2) hF hM (by kernel_rfl) (yld_ro1 (A := A) (j := j * 2 + 1) hF rfl (by kernel_rfl) (by kernel_rfl) (roK 1 rfl) (by kernel_rfl) (pr_snd (k := j) (by omega) (by omega))) fun a w hF hM => ?_)
          refine wl (eP 27 (v0 := .int .i64 (IntKind.i64.wrap (sumN l j - sumN l i + (pr l j).2))) (v := .int .i64 (sumN l j - sumN l i + (pr l j).2)) hF (by kernel_rfl) (fun _ => by kernel_rfl) (wi (by omega)) fun a hF => ?_)
          refine sB 1 [(6, .int .i64 (sumN l j - sumN l i + (pr l j).2))] hF (by kernel_rfl) fun a hF => ?_
          refine wpList_nil ?_
          refine hK14 _ _ ?_
          refine wp_seq_k fun K15 hK15 => ?_
          refine rQ hM (by kernel_rfl) (by kernel_rfl) ?_
          refine eQ 28 (v0 := .int .i64 (sumN l j - sumN l i + (pr l j).2)) (v := .int .i64 (sumN l j - sumN l i + (pr l j).2)) hF (by kernel_rfl) (fun _ => by kernel_rfl) rfl fun a hF => ?_
          refine eQ 29 (v0 := .pointer (some ⟨bb1, 0, none⟩)) (v := .pointer (some ⟨bb1, 0, none⟩)) hF (by kernel_rfl) (fun _ => by kernel_rfl) rfl fun a hF => ?_
          refine eQL 30 2 0 (v := .int .i64 b) hF (by kernel_rfl) rfl rfl (by kernel_rfl) (by kernel_rfl) fun a hF => ?_
          refine eQ 31 (v0 := .int .i64 (IntKind.i64.wrap (sumN l j - sumN l i + (pr l j).2 - b))) (v := .int .i64 (sumN l j - sumN l i + (pr l j).2 - b)) hF (by kernel_rfl) (fun _ => by kernel_rfl) (wi (by omega)) fun a hF => ?_
          refine eQ 32 (v0 := .int .i64 (IntKind.i64.wrap ((sumN l j - sumN l i + (pr l j).2 - b) * 1048576))) (v := .int .i64 ((sumN l j - sumN l i + (pr l j).2 - b) * 1048576)) hF (by kernel_rfl) (fun _ => by kernel_rfl) (wi (by omega)) fun a hF => ?_
          refine eQ 33 (v0 := .pointer (some ⟨bb1, 1, none⟩)) (v := .pointer (some ⟨bb1, 1, none⟩)) hF (by kernel_rfl) (fun _ => by kernel_rfl) rfl fun a hF => ?_
          refine eQL 34 2 1 (v := .int .i64 r) hF (by kernel_rfl) rfl rfl (by kernel_rfl) (by kernel_rfl) fun a hF => ?_
          refine eQ 35 (v0 := .slice A l.length c) (v := .slice A l.length c) hF (by kernel_rfl) (fun _ => by kernel_rfl) rfl fun a hF => ?_
          refine eQ 36 (v0 := .int .i64 (j : Int)) (v := .int .i64 (j : Int)) hF (by kernel_rfl) (fun _ => by kernel_rfl) rfl fun a hF => ?_
          refine eQ2 37 (v := .pointer (some (ea A (j * 2)))) hF (by kernel_rfl) (yld_ix (kd := .i64) (e := 31) (len := l.length) (cap := c) (i := (j : Int)) (size := 2) (A := A) hF rfl (by kernel_rfl) (by kernel_rfl) (by kernel_rfl) (by kernel_rfl) (by kernel_rfl) (roK 1 rfl) (by omega) (by omega) (by rw [flat2_length]; omega)) fun a hF => ?_
          refine eQ 38 (v0 := .pointer (some (ea A (j * 2)))) (v := .pointer (some (ea A (j * 2)))) hF (by kernel_rfl) (fun _ => by kernel_rfl) rfl fun a hF => ?_
          refine eQ2 39 (v := .int .i64 (pr l j).1) hF (by kernel_rfl) (yld_ro1 (A := A) (j := j * 2) hF rfl (by kernel_rfl) (by kernel_rfl) (roK 1 rfl) (by kernel_rfl) (pr_fst (k := j) (by omega) (by omega))) fun a hF => ?_
          refine eQ 40 (v0 := .slice A l.length c) (v := .slice A l.length c) hF (by kernel_rfl) (fun _ => by kernel_rfl) rfl fun a hF => ?_
          refine eQ 41 (v0 := .int .i64 (i : Int)) (v := .int .i64 (i : Int)) hF (by kernel_rfl) (fun _ => by kernel_rfl) rfl fun a hF => ?_
          refine eQ2 42 (v := .pointer (some (ea A (i * 2)))) hF (by kernel_rfl) (yld_ix (kd := .i64) (e := 31) (len := l.length) (cap := c) (i := (i : Int)) (size := 2) (A := A) hF rfl (by kernel_rfl) (by kernel_rfl) (by kernel_rfl) (by kernel_rfl) (by kernel_rfl) (roK 1 rfl) (by omega) (by omega) (by rw [flat2_length]; omega)) fun a hF => ?_
          refine eQ 43 (v0 := .pointer (some (ea A (i * 2)))) (v := .pointer (some (ea A (i * 2)))) hF (by kernel_rfl) (fun _ => by kernel_rfl) rfl fun a hF => ?_
          refine eQ2 44 (v := .int .i64 (pr l i).1) hF (by kernel_rfl) (yld_ro1 (A := A) (j := i * 2) hF rfl (by kernel_rfl) (by kernel_rfl) (roK 1 rfl) (by kernel_rfl) (pr_fst (k := i) (by omega) (by omega))) fun a hF => ?_
          refine eQ 45 (v0 := .int .i64 (IntKind.i64.wrap ((pr l j).1 - (pr l i).1))) (v := .int .i64 ((pr l j).1 - (pr l i).1)) hF (by kernel_rfl) (fun _ => by kernel_rfl) (wi (by omega)) fun a hF => ?_
          have hz8 : 0 ≤ r * ((pr l j).1 - (pr l i).1) ∧ r * ((pr l j).1 - (pr l i).1) ≤ 2305843009213693952 := mul_bd (1) (2097152) (0) (1099511627776) (by omega) (by omega) (by omega) (by omega) (by decide)
          refine eQ 46 (v0 := .int .i64 (IntKind.i64.wrap (r * ((pr l j).1 - (pr l i).1)))) (v := .int .i64 (r * ((pr l j).1 - (pr l i).1))) hF (by kernel_rfl) (fun _ => by kernel_rfl) (wi (by omega)) fun a hF => ?_
          refine eQ 47 (v0 := .bool (decide (r * ((pr l j).1 - (pr l i).1) < (sumN l j - sumN l i + (pr l j).2 - b) * 1048576))) (v := .bool (decide (r * ((pr l j).1 - (pr l i).1) < (sumN l j - sumN l i + (pr l j).2 - b) * 1048576))) hF (by kernel_rfl) (fun _ => by kernel_rfl) rfl fun a hF => ?_
          refine wpQuiet_nil ?_
          intro w hM
          refine hK15 _ _ ?_
          by_cases hz9 : r * ((pr l j).1 - (pr l i).1) < (sumN l j - sumN l i + (pr l j).2 - b) * 1048576
          · skip
            replace hF := hF.c hF (i := 47) (v := .bool true) rfl (bT hz9)
            refine cT hF (by kernel_rfl) (by kernel_rfl) ?_
            refine wp_seq_k fun K16 hK16 => ?_
            refine wp_region_lit ?_
            refine sB 1 [(4, .bool false)] hF (by kernel_rfl) fun a hF => ?_
            refine wpList_nil ?_
            refine hK16 _ _ ?_
            refine wp_ret ?_
            refine hR0 _ _ ?_
            refine ret_of hF hM (.tmp rfl (.nil)) ?_
            have hsn : sumN l (j + 1) = sumN l j + (pr l j).2 := rfl
            exact ⟨ret_bool (cf_bad hck (i := i) (j := j) (by omega) (by omega) (by unfold okIJ; rw [hsn]; omega)).symm, hM.bel⟩
          · skip
            replace hF := hF.c hF (i := 47) (v := .bool false) rfl (bF hz9)
            refine cF hF (by kernel_rfl) (by kernel_rfl) ?_
            refine wp_skip ?_
            refine hK13 _ _ ?_
            refine wp_region_lit ?_
            refine sB 1 [(19, .int .i64 (j : Int))] hF (by kernel_rfl) fun a hF => ?_
            refine wl (eP 20 (v0 := .int .i64 (IntKind.i64.wrap ((j : Int) + 1))) (v := .int .i64 ((j : Int) + 1)) hF (by kernel_rfl) (fun _ => by kernel_rfl) (wi (by omega)) fun a hF => ?_)
            refine sB 1 [(7, .int .i64 ((j : Int) + 1))] hF (by kernel_rfl) fun a hF => ?_
            refine wpList_nil ?_
            have hsn : sumN l (j + 1) = sumN l j + (pr l j).2 := rfl
            refine hK10 _ _ ⟨(j + 1), ⟨((((((Fr.nil hF).c hF (i := 5) rfl rfl).c hF (i := 2) rfl rfl).c hF (i := 1) rfl rfl).c hF (i := 7) rfl (vi (show ((j : Int) + 1 : Int) = ((j + 1) : Int) from by omega))).c hF (i := 6) rfl (vi (show (sumN l j - sumN l i + (pr l j).2 : Int) = sumN l (j + 1) - sumN l i from by omega))), (hM.sub ((Sub.nil.c (k := 2) rfl rfl).c (k := 1) rfl rfl)), (show ((j + 1) : Int) ≤ (l.length : Int) from by omega), (show (i : Int) ≤ ((j + 1) : Int) from by omega), (show OkTo b r l i (j + 1) from by exact OkTo.next (by assumption) (by unfold okIJ; rw [hsn]; omega))⟩, (show l.length - (j + 1) < l.length - j from by omega)⟩
        · skip
          replace hF := hF.c hF (i := 18) (v := .bool false) rfl (bF hz7)
          refine cF hF (by kernel_rfl) (by kernel_rfl) ?_
          refine wp_exit ?_
          refine hK7 _ _ ?_
          refine wp_region_lit ?_
          refine sB 1 [(12, .int .i64 (i : Int))] hF (by kernel_rfl) fun a hF => ?_
          refine wl (eP 13 (v0 := .int .i64 (IntKind.i64.wrap ((i : Int) + 1))) (v := .int .i64 ((i : Int) + 1)) hF (by kernel_rfl) (fun _ => by kernel_rfl) (wi (by omega)) fun a hF => ?_)
          refine sB 1 [(5, .int .i64 ((i : Int) + 1))] hF (by kernel_rfl) fun a hF => ?_
          refine wpList_nil ?_
          refine hK4 _ _ ⟨(i + 1), ⟨((((Fr.nil hF).c hF (i := 2) rfl rfl).c hF (i := 1) rfl rfl).c hF (i := 5) rfl (vi (show ((i : Int) + 1 : Int) = ((i + 1) : Int) from by omega))), (hM.sub ((Sub.nil.c (k := 2) rfl rfl).c (k := 1) rfl rfl)), (show ((i + 1) : Int) ≤ (l.length : Int) from by omega), (show OkTo b r l (i + 1) (i + 1) from by exact OkTo.turn (i := i) (j := j) (by assumption) (by omega))⟩, (show l.length - (i + 1) < l.length - i from by omega)⟩
    · skip
      replace hF := hF.c hF (i := 11) (v := .bool false) rfl (bF hz3)
      refine cF hF (by kernel_rfl) (by kernel_rfl) ?_
      refine wp_exit ?_
      refine hK2 _ _ ?_
      refine wp_seq_k fun K17 hK17 => ?_
      refine wp_region_lit ?_
      refine sB 1 [(4, .bool true)] hF (by kernel_rfl) fun a hF => ?_
      refine wpList_nil ?_
      refine hK17 _ _ ?_
      refine wp_ret ?_
      refine hR0 _ _ ?_
      refine ret_of hF hM (.tmp rfl (.nil)) ?_
      exact ⟨ret_bool (OkTo.all (i := i) (j := i) (by assumption) (by omega) hck).symm, hM.bel⟩

end Go.Proofs.Ytaekcgapbkmepaa
