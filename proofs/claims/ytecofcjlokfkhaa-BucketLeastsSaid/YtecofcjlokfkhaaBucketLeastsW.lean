/-
  The walk of BucketLeasts.
-/
import Derived.Test.YtecofcjlokfkhaaBkD
import Derived.Test.YtecofcjlokfkhaaCfTrW
namespace Go.Proofs.Ytecofcjlokfkhaa
open Go.RowKit
set_option linter.unusedVariables false
set_option linter.unusedSimpArgs false

set_option maxRecDepth 100000 in
set_option maxHeartbeats 4000000 in
theorem bucketLeasts_walk (rate : Int) (A : Option Addr) (l : List (Int × Int)) (c : Nat) (bu ra : Int) (Ga : Option Addr) (gaps : List Int) (cg : Nat) (Sa : Option Addr) (sizes : List Int) (cs : Nat) (ax ay at_ : Int) (w0 : World) (hA : Ro w0 A (flat2 l)) (hlc : l.length ≤ c) (hc : c ≤ 9223372036854775807) (hGa : Ro w0 Ga (gaps.map (Value.int .u16))) (hSa : Ro w0 Sa (sizes.map (Value.int .u16))) (hg : All16 gaps) (hs : All16 sizes) (hmg : gaps.length ≤ 9223372036854775807) (hms : sizes.length ≤ 9223372036854775807) (h : 0 ≤ bu ∧ bu < 4294967296 ∧ 0 ≤ ra ∧ ra < 4294967296 ∧ 0 ≤ at_ ∧ at_ < 256) :
    Calls Try.prog 5 #[.int .i64 rate, .slice A l.length c, .agg #[.int .u32 bu, .int .u32 ra, .slice Ga gaps.length cg, .slice Sa sizes.length cs], .agg #[.int .i64 ax, .int .i64 ay], .int .u8 at_] w0 (Ret w0 (.bool true)) := by
  refine enterK 72 Try.func5 rfl rfl rfl ?_
  intro a hF Q0 hR0 hN0
  have hM := Mem.start w0
  replace hM := hM.addOld 1 hGa (Nat.le_refl _)
  replace hM := hM.addOld 2 hSa (Nat.le_refl _)
  replace hM := hM.addOld 3 hA (Nat.le_refl _)
  refine wp_seq_k fun K1 hK1 => ?_
  refine wp_region_lit ?_
  refine wl (eN 7 4 (t := 27) (fun b => .pointer (some ⟨b, 0, none⟩)) #[.int .u32 bu, .int .u32 ra, .slice Ga gaps.length cg, .slice Sa sizes.length cs] hF hM (by kernel_rfl) (fun _ => by kernel_rfl) fun bb1 a w hF hM => ?_)
  refine wl (eN 8 5 (t := 30) (fun b => .pointer (some ⟨b, 0, none⟩)) #[.int .i64 ax, .int .i64 ay] hF hM (by kernel_rfl) (fun _ => by kernel_rfl) fun bb2 a w hF hM => ?_)
  refine sB 1 [(10, .bool false)] hF (by kernel_rfl) fun a hF => ?_
  refine wpList_nil ?_
  refine hK1 _ _ ?_
  refine wp_seq_k fun K2 hK2 => ?_
  refine wp_region_lit ?_
  refine sB 3 [(19, .slice A l.length c), (20, .slice A l.length c), (21, .int .i64 (l.length : Int))] hF (by kernel_rfl) fun a hF => ?_
  refine wl (eP 22 (v0 := .int .i64 (if 40 < (l.length : Int) then 40 else (l.length : Int))) (v := .int .i64 (min (l.length : Int) 40)) hF (by kernel_rfl) (fun _ => by kernel_rfl) (vi (min_if _ _)) fun a hF => ?_)
  obtain ⟨lsl, e_lsl⟩ : ∃ x : List (Int × Int), x = l.take ((min (l.length : Int) 40).toNat) := ⟨_, rfl⟩
  have len_lsl : (lsl.length : Int) = min (l.length : Int) 40 := by rw [e_lsl, List.length_take]; omega
  replace hM := hM.roMore 6 3 (xs' := (flat2 lsl)) rfl (by rw [e_lsl]; exact flat2_sub _ _)
  refine wl (eM 23 (v := .slice A lsl.length c) hF hM (by kernel_rfl) (yld_slice0 (e := 30) (len := l.length) (cap := c) (m := lsl.length) (A := A) (i := min (l.length : Int) 40) hF rfl (by kernel_rfl) (by kernel_rfl) (by kernel_rfl) (by kernel_rfl) (by kernel_rfl) (by omega) (by omega)) fun a w hF hM => ?_)
  refine sB 1 [(1, .slice A lsl.length c)] hF (by kernel_rfl) fun a hF => ?_
  refine wpList_nil ?_
  refine hK2 _ _ ?_
  refine wp_seq_k fun K3 hK3 => ?_
  refine wp_seq_k fun K4 hK4 => ?_
  refine wp_region_lit ?_
  refine sB 1 [(24, .int .i64 rate)] hF (by kernel_rfl) fun a hF => ?_
  refine wl (eL 25 4 0 (v := .agg #[.int .u32 bu, .int .u32 ra, .slice Ga gaps.length cg, .slice Sa sizes.length cs]) hF hM (by kernel_rfl) rfl rfl (by kernel_rfl) (by kernel_rfl) fun a w hF hM => ?_)
  obtain ⟨dbb, e_dbb⟩ : ∃ x : Int, x = 1 + bu % 1048576 := ⟨_, rfl⟩
  obtain ⟨dbr, e_dbr⟩ : ∃ x : Int, x = 1 + ra % 2097152 := ⟨_, rfl⟩
  have hdb : bkE dbb dbr = 0 := by unfold bkE; omega
  have := bkE_ok hdb
  refine wl (eM 26 (v := .agg #[.int .i64 dbb, .int .i64 dbr]) hF hM (by kernel_rfl) (yld_call (f := 10) (args := #[.agg #[.int .u32 bu, .int .u32 ra, .slice Ga gaps.length cg, .slice Sa sizes.length cs]]) hF (by kernel_rfl) (fun _ => by kernel_rfl) (fun w hM => by rw [e_dbb, e_dbr]; exact draftBucket_w bu ra (.slice Ga gaps.length cg) (.slice Sa sizes.length cs) w (by omega))) fun a w hF hM => ?_)
  refine sB 2 [(27, .int .i64 dbr), (28, .int .i64 rate)] hF (by kernel_rfl) fun a hF => ?_
  refine wl (eP 29 (v0 := .int .u64 (IntKind.u64.wrap rate)) (v := .int .u64 (rate % 18446744073709551616)) hF (by kernel_rfl) (fun _ => by kernel_rfl) (vi (u64_wrap _)) fun a hF => ?_)
  refine wl (eM 30 (v := .int .u64 (rate % 18446744073709551616 % 2097152)) hF hM (by kernel_rfl) (yld_rem (rate % 18446744073709551616) 2097152 hF rfl (by kernel_rfl) (by kernel_rfl) (by kernel_rfl) (by decide) (Int.tmod_eq_emod_of_nonneg (by omega))) fun a w hF hM => ?_)
  refine wl (eP 31 (v0 := .int .i64 (IntKind.i64.wrap (rate % 18446744073709551616 % 2097152))) (v := .int .i64 (rate % 18446744073709551616 % 2097152)) hF (by kernel_rfl) (fun _ => by kernel_rfl) (vi (IntWalk.i64_in _ (by omega))) fun a hF => ?_)
  refine wl (eP 32 (v0 := .int .i64 (IntKind.i64.wrap (1 + rate % 18446744073709551616 % 2097152))) (v := .int .i64 (1 + rate % 18446744073709551616 % 2097152)) hF (by kernel_rfl) (fun _ => by kernel_rfl) (wi (by omega)) fun a hF => ?_)
  refine sB 2 [(33, .agg #[.int .i64 rate, .int .i64 dbr, .int .i64 (1 + rate % 18446744073709551616 % 2097152)]), (34, .int .i64 0)] hF (by kernel_rfl) fun a hF => ?_
  refine wpList_nil ?_
  refine hK4 _ _ ?_
  refine wp_block ?_
  refine wp_loop_k (G := Nat) (fun gg a w => Fr 72 [(34, some (.int .i64 (gg : Int))), (1, some (.slice A lsl.length c)), (4, some (.int .u8 at_)), (7, some (.pointer (some ⟨bb1, 0, none⟩))), (8, some (.pointer (some ⟨bb2, 0, none⟩))), (33, some (.agg #[.int .i64 rate, .int .i64 dbr, .int .i64 (1 + rate % 18446744073709551616 % 2097152)]))] a ∧ Mem w0.heap.size w0 [(1, some (.ro Ga (gaps.map (Value.int .u16)))), (2, some (.ro Sa (sizes.map (Value.int .u16)))), (3, some (.ro A (flat2 l))), (4, some (.row bb1 27 #[.int .u32 bu, .int .u32 ra, .slice Ga gaps.length cg, .slice Sa sizes.length cs])), (5, some (.row bb2 30 #[.int .i64 ax, .int .i64 ay])), (6, some (.ro A (flat2 lsl)))] w ∧ ((gg : Int) ≤ 3)) (fun gg => 3 - gg) (0) ?_ ?_
  · refine ⟨(((((((Fr.nil hF).c hF (i := 33) rfl rfl).c hF (i := 8) rfl rfl).c hF (i := 7) rfl rfl).c hF (i := 4) rfl rfl).c hF (i := 1) rfl rfl).c hF (i := 34) rfl (vi (show (0 : Int) = (0 : Int) from by omega))), (hM.sub ((((((Sub.nil.c (k := 6) rfl rfl).c (k := 5) rfl rfl).c (k := 4) rfl rfl).c (k := 3) rfl rfl).c (k := 2) rfl rfl).c (k := 1) rfl rfl)), (show (0 : Int) ≤ 3 from by omega)⟩
  · intro gg a w hI
    intro K5 hK5
    obtain ⟨k34, rfl⟩ : ∃ x, x = gg := ⟨_, rfl⟩
    try dsimp only at hI hK5
    obtain ⟨hF, hM, hz1⟩ := hI
    refine wp_seq_k fun K6 hK6 => ?_
    refine wp_region_lit ?_
    refine sB 1 [(35, .bool (decide ((k34 : Int) < 3)))] hF (by kernel_rfl) fun a hF => ?_
    refine wpList_nil ?_
    refine hK6 _ _ ?_
    refine wp_seq_k fun K7 hK7 => ?_
    by_cases hz2 : (k34 : Int) < 3
    · skip
      replace hF := hF.c hF (i := 35) (v := .bool true) rfl (bT hz2)
      refine cT hF (by kernel_rfl) (by kernel_rfl) ?_
      refine wp_skip ?_
      refine hK7 _ _ ?_
      refine wp_seq_k fun K8 hK8 => ?_
      refine wp_block ?_
      refine wp_seq_k fun K9 hK9 => ?_
      refine wp_region_lit ?_
      obtain ⟨y2, hm2, hy2⟩ := idx_one (P := Try.prog) (t := 38) (e := 3) (len := 3) (kd := .i64) [rate, dbr, 1 + rate % 18446744073709551616 % 2097152] ((k34 : Int)) (by kernel_rfl) (by kernel_rfl) (by kernel_rfl) (by omega) rfl
      refine wl (eM 36 (v := .int .i64 y2) hF hM (by kernel_rfl) (yld_index (X := .agg #[.int .i64 rate, .int .i64 dbr, .int .i64 (1 + rate % 18446744073709551616 % 2097152)]) (I := .int .i64 ((k34 : Int))) hF rfl (by kernel_rfl) (by kernel_rfl) (by kernel_rfl) (fun w => hy2 w)) fun a w hF hM => ?_)
      refine sB 1 [(12, .int .i64 y2)] hF (by kernel_rfl) fun a hF => ?_
      refine wpList_nil ?_
      refine hK9 _ _ ?_
      refine wp_seq_k fun K10 hK10 => ?_
      obtain ⟨ltr, e_ltr⟩ : ∃ x : List (Int × Int), x = drTrace gaps sizes := ⟨_, rfl⟩
      have tr_ltr : trE ltr = 0 := by rw [e_ltr]; exact dr_trE hg hs
      have le_ltr : ltr.length ≤ 30 := by rw [e_ltr]; exact dr_le _ _
      obtain ⟨ltr_2, e_ltr_2⟩ : ∃ x : List (Int × Int), x = drTrace gaps sizes := ⟨_, rfl⟩
      have tr_ltr_2 : trE ltr_2 = 0 := by rw [e_ltr_2]; exact dr_trE hg hs
      have le_ltr_2 : ltr_2.length ≤ 30 := by rw [e_ltr_2]; exact dr_le _ _
      obtain ⟨lbt, e_lbt⟩ : ∃ x : List (Int × Int), x = bentL ltr_2 ax ay at_ := ⟨_, rfl⟩
      have le_lbt : lbt.length = ltr_2.length := by rw [e_lbt]; exact bentL_length _ _ _ _
      refine rF (by kernel_rfl) (by kernel_rfl) (fun S a w => ∃ AA3 : Option Addr, ∃ cc3 : Nat, ∃ AA4 : Option Addr, ∃ cc4 : Nat, ∃ AA5 : Option Addr, ∃ cc5 : Nat, Fr 72 [(1, some (.slice A lsl.length c)), (4, some (.int .u8 at_)), (7, some (.pointer (some ⟨bb1, 0, none⟩))), (8, some (.pointer (some ⟨bb2, 0, none⟩))), (12, some (.int .i64 y2)), (33, some (.agg #[.int .i64 rate, .int .i64 dbr, .int .i64 (1 + rate % 18446744073709551616 % 2097152)])), (34, some (.int .i64 (k34 : Int))), (35, some (.bool true)), (36, some (.int .i64 y2)), (37, (cond (S.getD 0 false) (some (.slice A lsl.length c)) none)), (38, (cond (S.getD 1 false) (some (.agg #[.int .u32 bu, .int .u32 ra, .slice Ga gaps.length cg, .slice Sa sizes.length cs])) none)), (39, (cond (S.getD 2 false) (some (.slice AA3 ltr.length cc3)) none)), (40, (cond (S.getD 3 false) (some (.agg #[.int .u32 bu, .int .u32 ra, .slice Ga gaps.length cg, .slice Sa sizes.length cs])) none)), (41, (cond (S.getD 4 false) (some (.slice AA4 ltr_2.length cc4)) none)), (42, (cond (S.getD 5 false) (some (.agg #[.int .i64 ax, .int .i64 ay])) none)), (43, (cond (S.getD 6 false) (some (.int .u8 at_)) none)), (44, (cond (S.getD 7 false) (some (.slice AA5 lbt.length cc5)) none)), (45, (cond (S.getD 8 false) (some (.agg #[.slice A lsl.length c, .slice AA3 ltr.length cc3, .slice AA5 lbt.length cc5])) none)), (46, (cond (S.getD 9 false) (some (.int .i64 0)) none))] a ∧ Mem w0.heap.size w0 [(1, some (.ro Ga (gaps.map (Value.int .u16)))), (2, some (.ro Sa (sizes.map (Value.int .u16)))), (3, some (.ro A (flat2 l))), (4, some (.row bb1 27 #[.int .u32 bu, .int .u32 ra, .slice Ga gaps.length cg, .slice Sa sizes.length cs])), (5, some (.row bb2 30 #[.int .i64 ax, .int .i64 ay])), (6, some (.ro A (flat2 lsl))), (7, (cond (S.getD 2 false) (some (.own (.slice AA3 ltr.length cc3) 30 2 ltr.length (flat2 ltr))) none)), (8, (cond (S.getD 4 false) (some (.own (.slice AA4 ltr_2.length cc4) 30 2 ltr_2.length (flat2 ltr_2))) none)), (9, (cond (S.getD 7 false) (some (.own (.slice AA5 lbt.length cc5) 30 2 lbt.length (flat2 lbt))) none))] w) ?_ ?_ ?_
      · exact ⟨none, 0, none, 0, none, 0, ((((((((((((((((((((Fr.nil hF).co hF (i := 46) (by kernel_rfl)).co hF (i := 45) (by kernel_rfl)).co hF (i := 44) (by kernel_rfl)).co hF (i := 43) (by kernel_rfl)).co hF (i := 42) (by kernel_rfl)).co hF (i := 41) (by kernel_rfl)).co hF (i := 40) (by kernel_rfl)).co hF (i := 39) (by kernel_rfl)).co hF (i := 38) (by kernel_rfl)).co hF (i := 37) (by kernel_rfl)).co hF (i := 36) (by kernel_rfl)).co hF (i := 35) (by kernel_rfl)).co hF (i := 34) (by kernel_rfl)).co hF (i := 33) (by kernel_rfl)).co hF (i := 12) (by kernel_rfl)).co hF (i := 8) (by kernel_rfl)).co hF (i := 7) (by kernel_rfl)).co hF (i := 4) (by kernel_rfl)).co hF (i := 1) (by kernel_rfl)), hM.drew.sub (((((((((Sub.nil.co (k := 9) (by kernel_rfl)).co (k := 8) (by kernel_rfl)).co (k := 7) (by kernel_rfl)).co (k := 6) (by kernel_rfl)).co (k := 5) (by kernel_rfl)).co (k := 4) (by kernel_rfl)).co (k := 3) (by kernel_rfl)).co (k := 2) (by kernel_rfl)).co (k := 1) (by kernel_rfl))⟩
      · refine stC ?_ (stC ?_ (stC ?_ (stC ?_ (stC ?_ (stC ?_ (stC ?_ (stC ?_ (stC ?_ (stC ?_ (trivial))))))))))
        · intro s0 s1 s2 s3 s4 s5 s6 s7 s8 s9 hc hi hp a w hS
          obtain rfl : s0 = false := hi
          obtain ⟨AA3, cc3, AA4, cc4, AA5, cc5, hF, hM⟩ := hS
          refine eP 37 (v0 := .slice A lsl.length c) (v := .slice A lsl.length c) hF (by kernel_rfl) (fun _ => by kernel_rfl) rfl fun a hF => ?_
          exact ⟨AA3, cc3, AA4, cc4, AA5, cc5, ((hF.repl 9 (by kernel_rfl)).cast (by kernel_rfl)), (hM.cast (by kernel_rfl))⟩
        · intro s0 s1 s2 s3 s4 s5 s6 s7 s8 s9 hc hi hp a w hS
          obtain rfl : s1 = false := hi
          obtain ⟨AA3, cc3, AA4, cc4, AA5, cc5, hF, hM⟩ := hS
          refine eL 38 4 0 (v := .agg #[.int .u32 bu, .int .u32 ra, .slice Ga gaps.length cg, .slice Sa sizes.length cs]) hF hM (by kernel_rfl) rfl rfl (by kernel_rfl) (by kernel_rfl) fun a w hF hM => ?_
          exact ⟨AA3, cc3, AA4, cc4, AA5, cc5, ((hF.repl 10 (by kernel_rfl)).cast (by kernel_rfl)), (hM.cast (by kernel_rfl))⟩
        · intro s0 s1 s2 s3 s4 s5 s6 s7 s8 s9 hc hi hp a w hS
          obtain rfl : s2 = false := hi
          obtain rfl : s1 = true := hp 1 (by kernel_rfl)
          obtain rfl : s8 = false := hc.f 8 2 (by kernel_rfl) rfl
          obtain ⟨AA3, cc3, AA4, cc4, AA5, cc5, hF, hM⟩ := hS
          refine sOwn 7 (f := 17) (args := #[.agg #[.int .u32 bu, .int .u32 ra, .slice Ga gaps.length cg, .slice Sa sizes.length cs]]) (mk := fun v => v) (e := 30) (size := 2) (m := ltr.length) (xs := (flat2 ltr)) hF hM (by kernel_rfl) rfl (by decide) (by kernel_rfl) (fun _ => by kernel_rfl) (by rw [e_ltr]; exact draftTrace_w bu ra Ga gaps cg Sa sizes cs w (hM.ok 1 _ rfl) (hM.ok 2 _ rfl) hg hs (by omega) (by omega)) fun AA3 cc3 a w hF hM => ?_
          exact ⟨AA3, cc3, AA4, cc4, AA5, cc5, ((hF.repl 11 (by kernel_rfl)).cast (by kernel_rfl)), ((hM.repl 6 (by kernel_rfl)).cast (by kernel_rfl))⟩
        · intro s0 s1 s2 s3 s4 s5 s6 s7 s8 s9 hc hi hp a w hS
          obtain rfl : s3 = false := hi
          obtain ⟨AA3, cc3, AA4, cc4, AA5, cc5, hF, hM⟩ := hS
          refine eL 40 4 0 (v := .agg #[.int .u32 bu, .int .u32 ra, .slice Ga gaps.length cg, .slice Sa sizes.length cs]) hF hM (by kernel_rfl) rfl rfl (by kernel_rfl) (by kernel_rfl) fun a w hF hM => ?_
          exact ⟨AA3, cc3, AA4, cc4, AA5, cc5, ((hF.repl 12 (by kernel_rfl)).cast (by kernel_rfl)), (hM.cast (by kernel_rfl))⟩
        · intro s0 s1 s2 s3 s4 s5 s6 s7 s8 s9 hc hi hp a w hS
          obtain rfl : s4 = false := hi
          obtain rfl : s3 = true := hp 3 (by kernel_rfl)
          obtain ⟨AA3, cc3, AA4, cc4, AA5, cc5, hF, hM⟩ := hS
          refine sOwn 8 (f := 17) (args := #[.agg #[.int .u32 bu, .int .u32 ra, .slice Ga gaps.length cg, .slice Sa sizes.length cs]]) (mk := fun v => v) (e := 30) (size := 2) (m := ltr_2.length) (xs := (flat2 ltr_2)) hF hM (by kernel_rfl) rfl (by decide) (by kernel_rfl) (fun _ => by kernel_rfl) (by rw [e_ltr_2]; exact draftTrace_w bu ra Ga gaps cg Sa sizes cs w (hM.ok 1 _ rfl) (hM.ok 2 _ rfl) hg hs (by omega) (by omega)) fun AA4 cc4 a w hF hM => ?_
          exact ⟨AA3, cc3, AA4, cc4, AA5, cc5, ((hF.repl 13 (by kernel_rfl)).cast (by kernel_rfl)), ((hM.repl 7 (by kernel_rfl)).cast (by kernel_rfl))⟩
        · intro s0 s1 s2 s3 s4 s5 s6 s7 s8 s9 hc hi hp a w hS
          obtain rfl : s5 = false := hi
          obtain ⟨AA3, cc3, AA4, cc4, AA5, cc5, hF, hM⟩ := hS
          refine eL 42 5 0 (v := .agg #[.int .i64 ax, .int .i64 ay]) hF hM (by kernel_rfl) rfl rfl (by kernel_rfl) (by kernel_rfl) fun a w hF hM => ?_
          exact ⟨AA3, cc3, AA4, cc4, AA5, cc5, ((hF.repl 14 (by kernel_rfl)).cast (by kernel_rfl)), (hM.cast (by kernel_rfl))⟩
        · intro s0 s1 s2 s3 s4 s5 s6 s7 s8 s9 hc hi hp a w hS
          obtain rfl : s6 = false := hi
          obtain ⟨AA3, cc3, AA4, cc4, AA5, cc5, hF, hM⟩ := hS
          refine eP 43 (v0 := .int .u8 at_) (v := .int .u8 at_) hF (by kernel_rfl) (fun _ => by kernel_rfl) rfl fun a hF => ?_
          exact ⟨AA3, cc3, AA4, cc4, AA5, cc5, ((hF.repl 15 (by kernel_rfl)).cast (by kernel_rfl)), (hM.cast (by kernel_rfl))⟩
        · intro s0 s1 s2 s3 s4 s5 s6 s7 s8 s9 hc hi hp a w hS
          obtain rfl : s7 = false := hi
          obtain rfl : s6 = true := hp 6 (by kernel_rfl)
          obtain rfl : s5 = true := hp 5 (by kernel_rfl)
          obtain rfl : s4 = true := hp 4 (by kernel_rfl)
          obtain rfl : s8 = false := hc.f 8 7 (by kernel_rfl) rfl
          obtain ⟨AA3, cc3, AA4, cc4, AA5, cc5, hF, hM⟩ := hS
          refine sOwn 9 (f := 19) (args := #[.slice AA4 ltr_2.length cc4, .agg #[.int .i64 ax, .int .i64 ay], .int .u8 at_]) (mk := fun v => v) (e := 30) (size := 2) (m := lbt.length) (xs := (flat2 lbt)) hF hM (by kernel_rfl) rfl (by decide) (by kernel_rfl) (fun _ => by kernel_rfl) (by rw [e_lbt]; exact bent_w AA4 ltr_2 _ ax ay at_ w (ro_of_own (hM.ok 8 _ rfl)) (fun h => by have := own_nil hM (k := 8) rfl h; first | omega | (simp; omega)) (by first | omega | (simp; omega)) (by omega)) fun AA5 cc5 a w hF hM => ?_
          exact ⟨AA3, cc3, AA4, cc4, AA5, cc5, ((hF.repl 16 (by kernel_rfl)).cast (by kernel_rfl)), ((hM.repl 8 (by kernel_rfl)).cast (by kernel_rfl))⟩
        · intro s0 s1 s2 s3 s4 s5 s6 s7 s8 s9 hc hi hp a w hS
          obtain rfl : s8 = false := hi
          obtain rfl : s7 = true := hp 7 (by kernel_rfl)
          obtain rfl : s2 = true := hp 2 (by kernel_rfl)
          obtain rfl : s0 = true := hp 0 (by kernel_rfl)
          obtain ⟨AA3, cc3, AA4, cc4, AA5, cc5, hF, hM⟩ := hS
          refine eP 45 (v0 := .agg #[.slice A lsl.length c, .slice AA3 ltr.length cc3, .slice AA5 lbt.length cc5]) (v := .agg #[.slice A lsl.length c, .slice AA3 ltr.length cc3, .slice AA5 lbt.length cc5]) hF (by kernel_rfl) (fun _ => by kernel_rfl) rfl fun a hF => ?_
          exact ⟨AA3, cc3, AA4, cc4, AA5, cc5, ((hF.repl 17 (by kernel_rfl)).cast (by kernel_rfl)), (hM.cast (by kernel_rfl))⟩
        · intro s0 s1 s2 s3 s4 s5 s6 s7 s8 s9 hc hi hp a w hS
          obtain rfl : s9 = false := hi
          obtain ⟨AA3, cc3, AA4, cc4, AA5, cc5, hF, hM⟩ := hS
          refine eP 46 (v0 := .int .i64 0) (v := .int .i64 0) hF (by kernel_rfl) (fun _ => by kernel_rfl) rfl fun a hF => ?_
          exact ⟨AA3, cc3, AA4, cc4, AA5, cc5, ((hF.repl 18 (by kernel_rfl)).cast (by kernel_rfl)), (hM.cast (by kernel_rfl))⟩
      · intro a w hS
        obtain ⟨AA3, cc3, AA4, cc4, AA5, cc5, hF, hM⟩ := hS
        replace hF : Fr 72 [(1, some (.slice A lsl.length c)), (4, some (.int .u8 at_)), (7, some (.pointer (some ⟨bb1, 0, none⟩))), (8, some (.pointer (some ⟨bb2, 0, none⟩))), (12, some (.int .i64 y2)), (33, some (.agg #[.int .i64 rate, .int .i64 dbr, .int .i64 (1 + rate % 18446744073709551616 % 2097152)])), (34, some (.int .i64 (k34 : Int))), (35, some (.bool true)), (36, some (.int .i64 y2)), (37, some (.slice A lsl.length c)), (38, some (.agg #[.int .u32 bu, .int .u32 ra, .slice Ga gaps.length cg, .slice Sa sizes.length cs])), (39, some (.slice AA3 ltr.length cc3)), (40, some (.agg #[.int .u32 bu, .int .u32 ra, .slice Ga gaps.length cg, .slice Sa sizes.length cs])), (41, some (.slice AA4 ltr_2.length cc4)), (42, some (.agg #[.int .i64 ax, .int .i64 ay])), (43, some (.int .u8 at_)), (44, some (.slice AA5 lbt.length cc5)), (45, some (.agg #[.slice A lsl.length c, .slice AA3 ltr.length cc3, .slice AA5 lbt.length cc5])), (46, some (.int .i64 0))] a := hF.cast (by kernel_rfl)
        replace hM : Mem w0.heap.size w0 [(1, some (.ro Ga (gaps.map (Value.int .u16)))), (2, some (.ro Sa (sizes.map (Value.int .u16)))), (3, some (.ro A (flat2 l))), (4, some (.row bb1 27 #[.int .u32 bu, .int .u32 ra, .slice Ga gaps.length cg, .slice Sa sizes.length cs])), (5, some (.row bb2 30 #[.int .i64 ax, .int .i64 ay])), (6, some (.ro A (flat2 lsl))), (7, some (.own (.slice AA3 ltr.length cc3) 30 2 ltr.length (flat2 ltr))), (8, some (.own (.slice AA4 ltr_2.length cc4) 30 2 ltr_2.length (flat2 ltr_2))), (9, some (.own (.slice AA5 lbt.length cc5) 30 2 lbt.length (flat2 lbt)))] w := hM.cast (by kernel_rfl)
        refine hK10 _ _ ?_
        refine wp_block ?_
        refine wp_loop_rounds 4 ?_
        refine rounds_k fun K11 hK11 => ?_
        refine wp_seq_k fun K12 hK12 => ?_
        refine wp_region_lit ?_
        refine wl (eP 47 (v0 := .bool (decide (0 < 3))) (v := .bool true) hF (by kernel_rfl) (fun _ => by kernel_rfl) (bT (by omega)) fun a hF => ?_)
        refine wpList_nil ?_
        refine hK12 _ _ ?_
        refine wp_seq_k fun K13 hK13 => ?_
        refine cT hF (by kernel_rfl) (by kernel_rfl) ?_
        refine wp_skip ?_
        refine hK13 _ _ ?_
        refine wp_seq_k fun K14 hK14 => ?_
        refine wp_block ?_
        refine wp_seq_k fun K15 hK15 => ?_
        refine wp_region_lit ?_
        refine sB 2 [(48, .slice A lsl.length c), (14, .slice A lsl.length c)] hF (by kernel_rfl) fun a hF => ?_
        refine wpList_nil ?_
        refine hK15 _ _ ?_
        refine wp_seq_k fun K16 hK16 => ?_
        refine wp_region_lit ?_
        refine sB 2 [(50, .int .i64 y2), (51, .slice A lsl.length c)] hF (by kernel_rfl) fun a hF => ?_
        refine wl (eM 52 (v := .tuple #[.int .i64 (leV y2 lsl), .int .i64 (leE y2 lsl)]) hF hM (by kernel_rfl) (yld_call (f := 27) (args := #[.int .i64 y2, .slice A lsl.length c]) hF (by kernel_rfl) (fun _ => by kernel_rfl) (fun w hM => bLeast_w y2 A lsl _ w (hM.ok 6 _ rfl))) fun a w hF hM => ?_)
        refine sB 5 [(49, .tuple #[.int .i64 (leV y2 lsl), .int .i64 (leE y2 lsl)]), (53, .int .i64 (leV y2 lsl)), (54, .int .i64 (leE y2 lsl)), (15, .int .i64 (leV y2 lsl)), (16, .int .i64 (leE y2 lsl))] hF (by kernel_rfl) fun a hF => ?_
        refine wpList_nil ?_
        refine hK16 _ _ ?_
        refine wp_seq_k fun K17 hK17 => ?_
        refine wp_region_lit ?_
        refine sB 2 [(56, .int .i64 y2), (57, .slice A lsl.length c)] hF (by kernel_rfl) fun a hF => ?_
        refine wl (eM 58 (v := .tuple #[.int .i64 (leV y2 lsl), .int .i64 (leE y2 lsl)]) hF hM (by kernel_rfl) (yld_call (f := 28) (args := #[.int .i64 y2, .slice A lsl.length c]) hF (by kernel_rfl) (fun _ => by kernel_rfl) (fun w hM => rLeast_w y2 A lsl _ w (hM.ok 6 _ rfl))) fun a w hF hM => ?_)
        refine sB 5 [(55, .tuple #[.int .i64 (leV y2 lsl), .int .i64 (leE y2 lsl)]), (59, .int .i64 (leV y2 lsl)), (60, .int .i64 (leE y2 lsl)), (17, .int .i64 (leV y2 lsl)), (18, .int .i64 (leE y2 lsl))] hF (by kernel_rfl) fun a hF => ?_
        refine wpList_nil ?_
        refine hK17 _ _ ?_
        refine wp_seq_k fun K18 hK18 => ?_
        refine wp_region_lit ?_
        refine sB 2 [(61, .int .i64 (leV y2 lsl)), (62, .int .i64 (leV y2 lsl))] hF (by kernel_rfl) fun a hF => ?_
        refine wl (eP 63 (v0 := .bool (!decide (leV y2 lsl = leV y2 lsl))) (v := .bool false) hF (by kernel_rfl) (fun _ => by kernel_rfl) (nT (by omega)) fun a hF => ?_)
        refine sB 3 [(64, .bool false), (65, .int .i64 (leE y2 lsl)), (66, .int .i64 (leE y2 lsl))] hF (by kernel_rfl) fun a hF => ?_
        refine wl (eP 67 (v0 := .bool (!decide (leE y2 lsl = leE y2 lsl))) (v := .bool false) hF (by kernel_rfl) (fun _ => by kernel_rfl) (nT (by omega)) fun a hF => ?_)
        refine sB 1 [(68, .bool false)] hF (by kernel_rfl) fun a hF => ?_
        refine wpList_nil ?_
        refine hK18 _ _ ?_
        refine cF hF (by kernel_rfl) (by kernel_rfl) ?_
        refine wp_skip ?_
        refine hK14 _ _ ?_
        refine wp_region_lit ?_
        refine wl (eP 69 (v0 := .int .i64 (IntKind.i64.wrap (0 + 1))) (v := .int .i64 1) hF (by kernel_rfl) (fun _ => by kernel_rfl) (vi (by decide)) fun a hF => ?_)
        refine sB 1 [(46, .int .i64 1)] hF (by kernel_rfl) fun a hF => ?_
        refine wpList_nil ?_
        refine hK11 _ _ ?_
        refine rounds_k fun K19 hK19 => ?_
        refine wp_seq_k fun K20 hK20 => ?_
        refine wp_region_lit ?_
        refine wl (eP 47 (v0 := .bool (decide (1 < 3))) (v := .bool true) hF (by kernel_rfl) (fun _ => by kernel_rfl) (bT (by omega)) fun a hF => ?_)
        refine wpList_nil ?_
        refine hK20 _ _ ?_
        refine wp_seq_k fun K21 hK21 => ?_
        refine cT hF (by kernel_rfl) (by kernel_rfl) ?_
        refine wp_skip ?_
        refine hK21 _ _ ?_
        refine wp_seq_k fun K22 hK22 => ?_
        refine wp_block ?_
        refine wp_seq_k fun K23 hK23 => ?_
        refine wp_region_lit ?_
        refine sB 2 [(48, .slice AA3 ltr.length cc3), (14, .slice AA3 ltr.length cc3)] hF (by kernel_rfl) fun a hF => ?_
        refine wpList_nil ?_
        refine hK23 _ _ ?_
        refine wp_seq_k fun K24 hK24 => ?_
        refine wp_region_lit ?_
        refine sB 2 [(50, .int .i64 y2), (51, .slice AA3 ltr.length cc3)] hF (by kernel_rfl) fun a hF => ?_
        refine wl (eM 52 (v := .tuple #[.int .i64 (leV y2 ltr), .int .i64 (leE y2 ltr)]) hF hM (by kernel_rfl) (yld_call (f := 27) (args := #[.int .i64 y2, .slice AA3 ltr.length cc3]) hF (by kernel_rfl) (fun _ => by kernel_rfl) (fun w hM => bLeast_w y2 AA3 ltr _ w (ro_of_own (hM.ok 7 _ rfl)))) fun a w hF hM => ?_)
        refine sB 5 [(49, .tuple #[.int .i64 (leV y2 ltr), .int .i64 (leE y2 ltr)]), (53, .int .i64 (leV y2 ltr)), (54, .int .i64 (leE y2 ltr)), (15, .int .i64 (leV y2 ltr)), (16, .int .i64 (leE y2 ltr))] hF (by kernel_rfl) fun a hF => ?_
        refine wpList_nil ?_
        refine hK24 _ _ ?_
        refine wp_seq_k fun K25 hK25 => ?_
        refine wp_region_lit ?_
        refine sB 2 [(56, .int .i64 y2), (57, .slice AA3 ltr.length cc3)] hF (by kernel_rfl) fun a hF => ?_
        refine wl (eM 58 (v := .tuple #[.int .i64 (leV y2 ltr), .int .i64 (leE y2 ltr)]) hF hM (by kernel_rfl) (yld_call (f := 28) (args := #[.int .i64 y2, .slice AA3 ltr.length cc3]) hF (by kernel_rfl) (fun _ => by kernel_rfl) (fun w hM => rLeast_w y2 AA3 ltr _ w (ro_of_own (hM.ok 7 _ rfl)))) fun a w hF hM => ?_)
        refine sB 5 [(55, .tuple #[.int .i64 (leV y2 ltr), .int .i64 (leE y2 ltr)]), (59, .int .i64 (leV y2 ltr)), (60, .int .i64 (leE y2 ltr)), (17, .int .i64 (leV y2 ltr)), (18, .int .i64 (leE y2 ltr))] hF (by kernel_rfl) fun a hF => ?_
        refine wpList_nil ?_
        refine hK25 _ _ ?_
        refine wp_seq_k fun K26 hK26 => ?_
        refine wp_region_lit ?_
        refine sB 2 [(61, .int .i64 (leV y2 ltr)), (62, .int .i64 (leV y2 ltr))] hF (by kernel_rfl) fun a hF => ?_
        refine wl (eP 63 (v0 := .bool (!decide (leV y2 ltr = leV y2 ltr))) (v := .bool false) hF (by kernel_rfl) (fun _ => by kernel_rfl) (nT (by omega)) fun a hF => ?_)
        refine sB 3 [(64, .bool false), (65, .int .i64 (leE y2 ltr)), (66, .int .i64 (leE y2 ltr))] hF (by kernel_rfl) fun a hF => ?_
        refine wl (eP 67 (v0 := .bool (!decide (leE y2 ltr = leE y2 ltr))) (v := .bool false) hF (by kernel_rfl) (fun _ => by kernel_rfl) (nT (by omega)) fun a hF => ?_)
        refine sB 1 [(68, .bool false)] hF (by kernel_rfl) fun a hF => ?_
        refine wpList_nil ?_
        refine hK26 _ _ ?_
        refine cF hF (by kernel_rfl) (by kernel_rfl) ?_
        refine wp_skip ?_
        refine hK22 _ _ ?_
        refine wp_region_lit ?_
        refine wl (eP 69 (v0 := .int .i64 (IntKind.i64.wrap (1 + 1))) (v := .int .i64 2) hF (by kernel_rfl) (fun _ => by kernel_rfl) (vi (by decide)) fun a hF => ?_)
        refine sB 1 [(46, .int .i64 2)] hF (by kernel_rfl) fun a hF => ?_
        refine wpList_nil ?_
        refine hK19 _ _ ?_
        refine rounds_k fun K27 hK27 => ?_
        refine wp_seq_k fun K28 hK28 => ?_
        refine wp_region_lit ?_
        refine wl (eP 47 (v0 := .bool (decide (2 < 3))) (v := .bool true) hF (by kernel_rfl) (fun _ => by kernel_rfl) (bT (by omega)) fun a hF => ?_)
        refine wpList_nil ?_
        refine hK28 _ _ ?_
        refine wp_seq_k fun K29 hK29 => ?_
        refine cT hF (by kernel_rfl) (by kernel_rfl) ?_
        refine wp_skip ?_
        refine hK29 _ _ ?_
        refine wp_seq_k fun K30 hK30 => ?_
        refine wp_block ?_
        refine wp_seq_k fun K31 hK31 => ?_
        refine wp_region_lit ?_
        refine sB 2 [(48, .slice AA5 lbt.length cc5), (14, .slice AA5 lbt.length cc5)] hF (by kernel_rfl) fun a hF => ?_
        refine wpList_nil ?_
        refine hK31 _ _ ?_
        refine wp_seq_k fun K32 hK32 => ?_
        refine wp_region_lit ?_
        refine sB 2 [(50, .int .i64 y2), (51, .slice AA5 lbt.length cc5)] hF (by kernel_rfl) fun a hF => ?_
        refine wl (eM 52 (v := .tuple #[.int .i64 (leV y2 lbt), .int .i64 (leE y2 lbt)]) hF hM (by kernel_rfl) (yld_call (f := 27) (args := #[.int .i64 y2, .slice AA5 lbt.length cc5]) hF (by kernel_rfl) (fun _ => by kernel_rfl) (fun w hM => bLeast_w y2 AA5 lbt _ w (ro_of_own (hM.ok 9 _ rfl)))) fun a w hF hM => ?_)
        refine sB 5 [(49, .tuple #[.int .i64 (leV y2 lbt), .int .i64 (leE y2 lbt)]), (53, .int .i64 (leV y2 lbt)), (54, .int .i64 (leE y2 lbt)), (15, .int .i64 (leV y2 lbt)), (16, .int .i64 (leE y2 lbt))] hF (by kernel_rfl) fun a hF => ?_
        refine wpList_nil ?_
        refine hK32 _ _ ?_
        refine wp_seq_k fun K33 hK33 => ?_
        refine wp_region_lit ?_
        refine sB 2 [(56, .int .i64 y2), (57, .slice AA5 lbt.length cc5)] hF (by kernel_rfl) fun a hF => ?_
        refine wl (eM 58 (v := .tuple #[.int .i64 (leV y2 lbt), .int .i64 (leE y2 lbt)]) hF hM (by kernel_rfl) (yld_call (f := 28) (args := #[.int .i64 y2, .slice AA5 lbt.length cc5]) hF (by kernel_rfl) (fun _ => by kernel_rfl) (fun w hM => rLeast_w y2 AA5 lbt _ w (ro_of_own (hM.ok 9 _ rfl)))) fun a w hF hM => ?_)
        refine sB 5 [(55, .tuple #[.int .i64 (leV y2 lbt), .int .i64 (leE y2 lbt)]), (59, .int .i64 (leV y2 lbt)), (60, .int .i64 (leE y2 lbt)), (17, .int .i64 (leV y2 lbt)), (18, .int .i64 (leE y2 lbt))] hF (by kernel_rfl) fun a hF => ?_
        refine wpList_nil ?_
        refine hK33 _ _ ?_
        refine wp_seq_k fun K34 hK34 => ?_
        refine wp_region_lit ?_
        refine sB 2 [(61, .int .i64 (leV y2 lbt)), (62, .int .i64 (leV y2 lbt))] hF (by kernel_rfl) fun a hF => ?_
        refine wl (eP 63 (v0 := .bool (!decide (leV y2 lbt = leV y2 lbt))) (v := .bool false) hF (by kernel_rfl) (fun _ => by kernel_rfl) (nT (by omega)) fun a hF => ?_)
        refine sB 3 [(64, .bool false), (65, .int .i64 (leE y2 lbt)), (66, .int .i64 (leE y2 lbt))] hF (by kernel_rfl) fun a hF => ?_
        refine wl (eP 67 (v0 := .bool (!decide (leE y2 lbt = leE y2 lbt))) (v := .bool false) hF (by kernel_rfl) (fun _ => by kernel_rfl) (nT (by omega)) fun a hF => ?_)
        refine sB 1 [(68, .bool false)] hF (by kernel_rfl) fun a hF => ?_
        refine wpList_nil ?_
        refine hK34 _ _ ?_
        refine cF hF (by kernel_rfl) (by kernel_rfl) ?_
        refine wp_skip ?_
        refine hK30 _ _ ?_
        refine wp_region_lit ?_
        refine wl (eP 69 (v0 := .int .i64 (IntKind.i64.wrap (2 + 1))) (v := .int .i64 3) hF (by kernel_rfl) (fun _ => by kernel_rfl) (vi (by decide)) fun a hF => ?_)
        refine sB 1 [(46, .int .i64 3)] hF (by kernel_rfl) fun a hF => ?_
        refine wpList_nil ?_
        refine hK27 _ _ ?_
        refine rounds_k fun K35 hK35 => ?_
        refine wp_seq_k fun K36 hK36 => ?_
        refine wp_region_lit ?_
        refine wl (eP 47 (v0 := .bool (decide (3 < 3))) (v := .bool false) hF (by kernel_rfl) (fun _ => by kernel_rfl) (bF (by omega)) fun a hF => ?_)
        refine wpList_nil ?_
        refine hK36 _ _ ?_
        refine wp_seq_k fun K37 hK37 => ?_
        refine cF hF (by kernel_rfl) (by kernel_rfl) ?_
        refine wp_exit ?_
        refine hK8 _ _ ?_
        refine wp_region_lit ?_
        refine wl (eP 70 (v0 := .int .i64 (IntKind.i64.wrap ((k34 : Int) + 1))) (v := .int .i64 ((k34 : Int) + 1)) hF (by kernel_rfl) (fun _ => by kernel_rfl) (wi (by omega)) fun a hF => ?_)
        refine sB 1 [(34, .int .i64 ((k34 : Int) + 1))] hF (by kernel_rfl) fun a hF => ?_
        refine wpList_nil ?_
        refine hK5 _ _ ⟨(k34 + 1), ⟨(((((((Fr.nil hF).c hF (i := 33) rfl rfl).c hF (i := 8) rfl rfl).c hF (i := 7) rfl rfl).c hF (i := 4) rfl rfl).c hF (i := 1) rfl rfl).c hF (i := 34) rfl (vi (show ((k34 : Int) + 1 : Int) = ((k34 + 1) : Int) from by omega))), (hM.sub ((((((Sub.nil.c (k := 6) rfl rfl).c (k := 5) rfl rfl).c (k := 4) rfl rfl).c (k := 3) rfl rfl).c (k := 2) rfl rfl).c (k := 1) rfl rfl)), (show ((k34 + 1) : Int) ≤ 3 from by omega)⟩, (show 3 - (k34 + 1) < 3 - k34 from by omega)⟩
    · skip
      replace hF := hF.c hF (i := 35) (v := .bool false) rfl (bF hz2)
      refine cF hF (by kernel_rfl) (by kernel_rfl) ?_
      refine wp_exit ?_
      refine hK3 _ _ ?_
      refine wp_seq_k fun K38 hK38 => ?_
      refine wp_region_lit ?_
      refine wl (eM 71 (v := .bool true) hF hM (by kernel_rfl) (yld_call (f := 21) (args := #[]) hF (by kernel_rfl) (fun _ => by kernel_rfl) (fun w hM => works_w w)) fun a w hF hM => ?_)
      refine sB 1 [(10, .bool true)] hF (by kernel_rfl) fun a hF => ?_
      refine wpList_nil ?_
      refine hK38 _ _ ?_
      refine wp_ret ?_
      refine hR0 _ _ ?_
      refine ret_of hF hM (.tmp rfl (.nil)) ?_
      exact ⟨rfl, hM.bel⟩

end Go.Proofs.Ytecofcjlokfkhaa
