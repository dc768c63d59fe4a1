/-
  The walk of BucketLevels.
-/
import Derived.Test.YtecofcjlokfkhaaBkD
import Derived.Test.YtecofcjlokfkhaaCfTrW
namespace Go.Proofs.Ytecofcjlokfkhaa
open Go.RowKit
set_option linter.unusedVariables false
set_option linter.unusedSimpArgs false

set_option maxRecDepth 100000 in
set_option maxHeartbeats 4000000 in
theorem bucketLevels_walk (bu ra : Int) (Ga : Option Addr) (gaps : List Int) (cg : Nat) (Sa : Option Addr) (sizes : List Int) (cs : Nat) (w0 : World) (hGa : Ro w0 Ga (gaps.map (Value.int .u16))) (hSa : Ro w0 Sa (sizes.map (Value.int .u16))) (hg : All16 gaps) (hs : All16 sizes) (hmg : gaps.length ≤ 9223372036854775807) (hms : sizes.length ≤ 9223372036854775807) (h : 0 ≤ bu ∧ bu < 4294967296 ∧ 0 ≤ ra ∧ ra < 4294967296) :
    Calls Try.prog 6 #[.agg #[.int .u32 bu, .int .u32 ra, .slice Ga gaps.length cg, .slice Sa sizes.length cs]] w0 (Ret w0 (.bool true)) := by
  refine enterK 80 Try.func6 rfl rfl rfl ?_
  intro a hF Q0 hR0 hN0
  have hM := Mem.start w0
  replace hM := hM.addOld 1 hGa (Nat.le_refl _)
  replace hM := hM.addOld 2 hSa (Nat.le_refl _)
  refine wp_seq_k fun K1 hK1 => ?_
  refine wp_region_lit ?_
  refine wl (eN 1 3 (t := 27) (fun b => .pointer (some ⟨b, 0, none⟩)) #[.int .u32 bu, .int .u32 ra, .slice Ga gaps.length cg, .slice Sa sizes.length cs] hF hM (by kernel_rfl) (fun _ => by kernel_rfl) fun bb1 a w hF hM => ?_)
  refine sB 1 [(2, .bool false)] hF (by kernel_rfl) fun a hF => ?_
  refine wpList_nil ?_
  refine hK1 _ _ ?_
  refine wp_seq_k fun K2 hK2 => ?_
  refine wp_seq_k fun K3 hK3 => ?_
  refine wp_region_lit ?_
  refine wl (eM 10 (v := .bool true) hF hM (by kernel_rfl) (yld_call (f := 21) (args := #[]) hF (by kernel_rfl) (fun _ => by kernel_rfl) (fun w hM => works_w w)) fun a w hF hM => ?_)
  refine sB 1 [(11, .bool false)] hF (by kernel_rfl) fun a hF => ?_
  refine wpList_nil ?_
  refine hK3 _ _ ?_
  refine cF hF (by kernel_rfl) (by kernel_rfl) ?_
  refine wp_skip ?_
  refine hK2 _ _ ?_
  refine wp_seq_k fun K4 hK4 => ?_
  refine wp_region_lit ?_
  refine wl (eL 12 3 0 (v := .agg #[.int .u32 bu, .int .u32 ra, .slice Ga gaps.length cg, .slice Sa sizes.length cs]) hF hM (by kernel_rfl) rfl rfl (by kernel_rfl) (by kernel_rfl) fun a w hF hM => ?_)
  obtain ⟨dbb, e_dbb⟩ : ∃ x : Int, x = 1 + bu % 1048576 := ⟨_, rfl⟩
  obtain ⟨dbr, e_dbr⟩ : ∃ x : Int, x = 1 + ra % 2097152 := ⟨_, rfl⟩
  have hdb : bkE dbb dbr = 0 := by unfold bkE; omega
  have := bkE_ok hdb
  refine wl (eM 13 (v := .agg #[.int .i64 dbb, .int .i64 dbr]) hF hM (by kernel_rfl) (yld_call (f := 10) (args := #[.agg #[.int .u32 bu, .int .u32 ra, .slice Ga gaps.length cg, .slice Sa sizes.length cs]]) hF (by kernel_rfl) (fun _ => by kernel_rfl) (fun w hM => by rw [e_dbb, e_dbr]; exact draftBucket_w bu ra (.slice Ga gaps.length cg) (.slice Sa sizes.length cs) w (by omega))) fun a w hF hM => ?_)
  refine wl (eN 3 4 (t := 23) (fun b => .pointer (some ⟨b, 0, none⟩)) #[.int .i64 0, .int .i64 0] hF hM (by kernel_rfl) (fun _ => by kernel_rfl) fun bb2 a w hF hM => ?_)
  refine wl (sStore (i := 4) (off := 0) (cs' := #[.int .i64 dbb, .int .i64 dbr]) hF hM (by kernel_rfl) rfl rfl (by kernel_rfl) (by kernel_rfl) rfl (by kernel_rfl) fun w hM => ?_)
  refine wpList_nil ?_
  refine hK4 _ _ ?_
  refine wp_seq_k fun K5 hK5 => ?_
  refine wp_seq_k fun K6 hK6 => ?_
  obtain ⟨ltr, e_ltr⟩ : ∃ x : List (Int × Int), x = drTrace gaps sizes := ⟨_, rfl⟩
  have tr_ltr : trE ltr = 0 := by rw [e_ltr]; exact dr_trE hg hs
  have le_ltr : ltr.length ≤ 30 := by rw [e_ltr]; exact dr_le _ _
  obtain ⟨lcf, e_lcf⟩ : ∃ x : List (Int × Int), x = cfDr bu ra gaps sizes := ⟨_, rfl⟩
  have cf_lcf : cfB (1 + bu % 1048576) (1 + ra % 2097152) lcf = true := by rw [e_lcf]; exact cfTr_cf (by unfold bkE; omega) (dr_trE hg hs)
  have tr_lcf : trE lcf = 0 := ckE_tr (cf_iff.1 cf_lcf).1
  have le_lcf : lcf.length ≤ 30 := by rw [e_lcf]; exact Nat.le_trans (cfTr_le (by unfold bkE; omega) (dr_trE hg hs)) (dr_le _ _)
  have pr_lcf : ∀ k, k < lcf.length → 0 ≤ (pr lcf k).1 ∧ (pr lcf k).1 ≤ 1966050 ∧ 1 ≤ (pr lcf k).2 ∧ (pr lcf k).2 ≤ 65536 := by rw [e_lcf]; exact fun k hk => cfTr_pr (p := fun x => 0 ≤ x.1 ∧ x.1 ≤ 1966050 ∧ 1 ≤ x.2 ∧ x.2 ≤ 65536) (by unfold bkE; omega) (dr_trE hg hs) (fun j hj => dr_pr hg hs hj) hk
  refine rF (by kernel_rfl) (by kernel_rfl) (fun S a w => ∃ AA3 : Option Addr, ∃ cc3 : Nat, ∃ AA4 : Option Addr, ∃ cc4 : Nat, Fr 80 [(1, some (.pointer (some ⟨bb1, 0, none⟩))), (2, some (.bool false)), (3, some (.pointer (some ⟨bb2, 0, none⟩))), (14, (cond (S.getD 0 false) (some (.agg #[.int .u32 bu, .int .u32 ra, .slice Ga gaps.length cg, .slice Sa sizes.length cs])) none)), (15, (cond (S.getD 1 false) (some (.slice AA3 ltr.length cc3)) none)), (16, (cond (S.getD 2 false) (some (.agg #[.int .u32 bu, .int .u32 ra, .slice Ga gaps.length cg, .slice Sa sizes.length cs])) none)), (17, (cond (S.getD 3 false) (some (.slice AA4 lcf.length cc4)) none)), (18, (cond (S.getD 4 false) (some (.agg #[.slice AA3 ltr.length cc3, .slice AA4 lcf.length cc4])) none)), (19, (cond (S.getD 5 false) (some (.int .i64 0)) none))] a ∧ Mem w0.heap.size w0 [(1, some (.ro Ga (gaps.map (Value.int .u16)))), (2, some (.ro Sa (sizes.map (Value.int .u16)))), (3, some (.row bb1 27 #[.int .u32 bu, .int .u32 ra, .slice Ga gaps.length cg, .slice Sa sizes.length cs])), (4, some (.row bb2 23 #[.int .i64 dbb, .int .i64 dbr])), (5, (cond (S.getD 1 false) (some (.own (.slice AA3 ltr.length cc3) 30 2 ltr.length (flat2 ltr))) none)), (6, (cond (S.getD 3 false) (some (.own (.slice AA4 lcf.length cc4) 30 2 lcf.length (flat2 lcf))) none))] w) ?_ ?_ ?_
  · exact ⟨none, 0, none, 0, ((((((((((Fr.nil hF).co hF (i := 19) (by kernel_rfl)).co hF (i := 18) (by kernel_rfl)).co hF (i := 17) (by kernel_rfl)).co hF (i := 16) (by kernel_rfl)).co hF (i := 15) (by kernel_rfl)).co hF (i := 14) (by kernel_rfl)).co hF (i := 3) (by kernel_rfl)).co hF (i := 2) (by kernel_rfl)).co hF (i := 1) (by kernel_rfl)), hM.drew.sub ((((((Sub.nil.co (k := 6) (by kernel_rfl)).co (k := 5) (by kernel_rfl)).co (k := 4) (by kernel_rfl)).co (k := 3) (by kernel_rfl)).co (k := 2) (by kernel_rfl)).co (k := 1) (by kernel_rfl))⟩
  · refine stC ?_ (stC ?_ (stC ?_ (stC ?_ (stC ?_ (stC ?_ (trivial))))))
    · intro s0 s1 s2 s3 s4 s5 hc hi hp a w hS
      obtain rfl : s0 = false := hi
      obtain ⟨AA3, cc3, AA4, cc4, hF, hM⟩ := hS
      refine eL 14 3 0 (v := .agg #[.int .u32 bu, .int .u32 ra, .slice Ga gaps.length cg, .slice Sa sizes.length cs]) hF hM (by kernel_rfl) rfl rfl (by kernel_rfl) (by kernel_rfl) fun a w hF hM => ?_
      exact ⟨AA3, cc3, AA4, cc4, ((hF.repl 3 (by kernel_rfl)).cast (by kernel_rfl)), (hM.cast (by kernel_rfl))⟩
    · intro s0 s1 s2 s3 s4 s5 hc hi hp a w hS
      obtain rfl : s1 = false := hi
      obtain rfl : s0 = true := hp 0 (by kernel_rfl)
      obtain rfl : s4 = false := hc.f 4 1 (by kernel_rfl) rfl
      obtain ⟨AA3, cc3, AA4, cc4, hF, hM⟩ := hS
      refine sOwn 5 (f := 17) (args := #[.agg #[.int .u32 bu, .int .u32 ra, .slice Ga gaps.length cg, .slice Sa sizes.length cs]]) (mk := fun v => v) (e := 30) (size := 2) (m := ltr.length) (xs := (flat2 ltr)) hF hM (by kernel_rfl) rfl (by decide) (by kernel_rfl) (fun _ => by kernel_rfl) (by rw [e_ltr]; exact draftTrace_w bu ra Ga gaps cg Sa sizes cs w (hM.ok 1 _ rfl) (hM.ok 2 _ rfl) hg hs (by omega) (by omega)) fun AA3 cc3 a w hF hM => ?_
      exact ⟨AA3, cc3, AA4, cc4, ((hF.repl 4 (by kernel_rfl)).cast (by kernel_rfl)), ((hM.repl 4 (by kernel_rfl)).cast (by kernel_rfl))⟩
    · intro s0 s1 s2 s3 s4 s5 hc hi hp a w hS
      obtain rfl : s2 = false := hi
      obtain ⟨AA3, cc3, AA4, cc4, hF, hM⟩ := hS
      refine eL 16 3 0 (v := .agg #[.int .u32 bu, .int .u32 ra, .slice Ga gaps.length cg, .slice Sa sizes.length cs]) hF hM (by kernel_rfl) rfl rfl (by kernel_rfl) (by kernel_rfl) fun a w hF hM => ?_
      exact ⟨AA3, cc3, AA4, cc4, ((hF.repl 5 (by kernel_rfl)).cast (by kernel_rfl)), (hM.cast (by kernel_rfl))⟩
    · intro s0 s1 s2 s3 s4 s5 hc hi hp a w hS
      obtain rfl : s3 = false := hi
      obtain rfl : s2 = true := hp 2 (by kernel_rfl)
      obtain rfl : s4 = false := hc.f 4 3 (by kernel_rfl) rfl
      obtain ⟨AA3, cc3, AA4, cc4, hF, hM⟩ := hS
      refine sOwn 6 (f := 22) (args := #[.agg #[.int .u32 bu, .int .u32 ra, .slice Ga gaps.length cg, .slice Sa sizes.length cs]]) (mk := fun v => v) (e := 30) (size := 2) (m := lcf.length) (xs := (flat2 lcf)) hF hM (by kernel_rfl) rfl (by decide) (by kernel_rfl) (fun _ => by kernel_rfl) (by rw [e_lcf]; exact conforming_w bu ra Ga gaps cg Sa sizes cs w (hM.ok 1 _ rfl) (hM.ok 2 _ rfl) hg hs (by omega) (by omega) (by omega)) fun AA4 cc4 a w hF hM => ?_
      exact ⟨AA3, cc3, AA4, cc4, ((hF.repl 6 (by kernel_rfl)).cast (by kernel_rfl)), ((hM.repl 5 (by kernel_rfl)).cast (by kernel_rfl))⟩
    · intro s0 s1 s2 s3 s4 s5 hc hi hp a w hS
      obtain rfl : s4 = false := hi
      obtain rfl : s3 = true := hp 3 (by kernel_rfl)
      obtain rfl : s1 = true := hp 1 (by kernel_rfl)
      obtain ⟨AA3, cc3, AA4, cc4, hF, hM⟩ := hS
      refine eP 18 (v0 := .agg #[.slice AA3 ltr.length cc3, .slice AA4 lcf.length cc4]) (v := .agg #[.slice AA3 ltr.length cc3, .slice AA4 lcf.length cc4]) hF (by kernel_rfl) (fun _ => by kernel_rfl) rfl fun a hF => ?_
      exact ⟨AA3, cc3, AA4, cc4, ((hF.repl 7 (by kernel_rfl)).cast (by kernel_rfl)), (hM.cast (by kernel_rfl))⟩
    · intro s0 s1 s2 s3 s4 s5 hc hi hp a w hS
      obtain rfl : s5 = false := hi
      obtain ⟨AA3, cc3, AA4, cc4, hF, hM⟩ := hS
      refine eP 19 (v0 := .int .i64 0) (v := .int .i64 0) hF (by kernel_rfl) (fun _ => by kernel_rfl) rfl fun a hF => ?_
      exact ⟨AA3, cc3, AA4, cc4, ((hF.repl 8 (by kernel_rfl)).cast (by kernel_rfl)), (hM.cast (by kernel_rfl))⟩
  · intro a w hS
    obtain ⟨AA3, cc3, AA4, cc4, hF, hM⟩ := hS
    replace hF : Fr 80 [(1, some (.pointer (some ⟨bb1, 0, none⟩))), (2, some (.bool false)), (3, some (.pointer (some ⟨bb2, 0, none⟩))), (14, some (.agg #[.int .u32 bu, .int .u32 ra, .slice Ga gaps.length cg, .slice Sa sizes.length cs])), (15, some (.slice AA3 ltr.length cc3)), (16, some (.agg #[.int .u32 bu, .int .u32 ra, .slice Ga gaps.length cg, .slice Sa sizes.length cs])), (17, some (.slice AA4 lcf.length cc4)), (18, some (.agg #[.slice AA3 ltr.length cc3, .slice AA4 lcf.length cc4])), (19, some (.int .i64 0))] a := hF.cast (by kernel_rfl)
    replace hM : Mem w0.heap.size w0 [(1, some (.ro Ga (gaps.map (Value.int .u16)))), (2, some (.ro Sa (sizes.map (Value.int .u16)))), (3, some (.row bb1 27 #[.int .u32 bu, .int .u32 ra, .slice Ga gaps.length cg, .slice Sa sizes.length cs])), (4, some (.row bb2 23 #[.int .i64 dbb, .int .i64 dbr])), (5, some (.own (.slice AA3 ltr.length cc3) 30 2 ltr.length (flat2 ltr))), (6, some (.own (.slice AA4 lcf.length cc4) 30 2 lcf.length (flat2 lcf)))] w := hM.cast (by kernel_rfl)
    refine hK6 _ _ ?_
    refine wp_block ?_
    refine wp_loop_rounds 3 ?_
    refine rounds_k fun K7 hK7 => ?_
    refine wp_seq_k fun K8 hK8 => ?_
    refine wp_region_lit ?_
    refine wl (eP 20 (v0 := .bool (decide (0 < 2))) (v := .bool true) hF (by kernel_rfl) (fun _ => by kernel_rfl) (bT (by omega)) fun a hF => ?_)
    refine wpList_nil ?_
    refine hK8 _ _ ?_
    refine wp_seq_k fun K9 hK9 => ?_
    refine cT hF (by kernel_rfl) (by kernel_rfl) ?_
    refine wp_skip ?_
    refine hK9 _ _ ?_
    refine wp_seq_k fun K10 hK10 => ?_
    refine wp_block ?_
    refine wp_seq_k fun K11 hK11 => ?_
    refine wp_region_lit ?_
    refine sB 2 [(21, .slice AA3 ltr.length cc3), (5, .slice AA3 ltr.length cc3)] hF (by kernel_rfl) fun a hF => ?_
    refine wpList_nil ?_
    refine hK11 _ _ ?_
    refine wp_seq_k fun K12 hK12 => ?_
    refine wp_region_lit ?_
    refine sB 1 [(22, .pointer (some ⟨bb2, 0, none⟩))] hF (by kernel_rfl) fun a hF => ?_
    refine wl (eL 23 4 0 (v := .int .i64 dbb) hF hM (by kernel_rfl) rfl rfl (by kernel_rfl) (by kernel_rfl) fun a w hF hM => ?_)
    refine wl (eP 24 (v0 := .int .i64 (IntKind.i64.wrap (dbb * 1048576))) (v := .int .i64 (dbb * 1048576)) hF (by kernel_rfl) (fun _ => by kernel_rfl) (wi (by omega)) fun a hF => ?_)
    refine sB 3 [(6, .int .i64 (dbb * 1048576)), (7, .int .i64 0), (8, .int .i64 (-1))] hF (by kernel_rfl) fun a hF => ?_
    refine wpList_nil ?_
    refine hK12 _ _ ?_
    refine wp_seq_k fun K13 hK13 => ?_
    refine wp_seq_k fun K14 hK14 => ?_
    have hl0 : lvN dbb dbr ltr 0 = dbb * 1048576 := rfl
    have ha0 : laN ltr 0 = 0 := rfl
    refine wp_region_lit ?_
    refine sB 1 [(9, .int .i64 0)] hF (by kernel_rfl) fun a hF => ?_
    refine wpList_nil ?_
    refine hK14 _ _ ?_
    refine wp_block ?_
    refine wp_loop_k (G := Nat × Int) (fun gg a w => Fr 80 [(6, some (.int .i64 (lvN dbb dbr ltr gg.1))), (7, some (.int .i64 (laN ltr gg.1))), (8, some (.int .i64 gg.2)), (9, some (.int .i64 (gg.1 : Int))), (2, some (.bool false)), (3, some (.pointer (some ⟨bb2, 0, none⟩))), (5, some (.slice AA3 ltr.length cc3)), (18, some (.agg #[.slice AA3 ltr.length cc3, .slice AA4 lcf.length cc4])), (19, some (.int .i64 0))] a ∧ Mem w0.heap.size w0 [(1, some (.ro Ga (gaps.map (Value.int .u16)))), (2, some (.ro Sa (sizes.map (Value.int .u16)))), (4, some (.row bb2 23 #[.int .i64 dbb, .int .i64 dbr])), (5, some (.own (.slice AA3 ltr.length cc3) 30 2 ltr.length (flat2 ltr))), (6, some (.own (.slice AA4 lcf.length cc4) 30 2 lcf.length (flat2 lcf)))] w ∧ ((gg.1 : Int) ≤ (ltr.length : Int)) ∧ (BadAt dbb dbr ltr gg.1 gg.2) ∧ (-1 ≤ gg.2) ∧ (gg.2 ≤ (gg.1 : Int))) (fun gg => ltr.length - gg.1) (0, -1) ?_ ?_
    · refine ⟨((((((((((Fr.nil hF).c hF (i := 19) rfl rfl).c hF (i := 18) rfl rfl).c hF (i := 5) rfl rfl).c hF (i := 3) rfl rfl).c hF (i := 2) rfl rfl).c hF (i := 9) rfl (vi (show (0 : Int) = (0 : Int) from by omega))).c hF (i := 8) rfl rfl).c hF (i := 7) rfl (vi (show (0 : Int) = laN ltr 0 from by omega))).c hF (i := 6) rfl (vi (show (dbb * 1048576 : Int) = lvN dbb dbr ltr 0 from by omega))), (hM.sub (((((Sub.nil.c (k := 6) rfl rfl).c (k := 5) rfl rfl).c (k := 4) rfl rfl).c (k := 2) rfl rfl).c (k := 1) rfl rfl)), (show (0 : Int) ≤ (ltr.length : Int) from by omega), (show BadAt dbb dbr ltr 0 (-1) from by exact BadAt.zero _ _ _), (show -1 ≤ (-1) from by omega), (show (-1) ≤ (0 : Int) from by omega)⟩
    · intro gg a w hI
      intro K15 hK15
      obtain ⟨k_ltr, bd_ltr⟩ := gg
      try dsimp only at hI hK15
      obtain ⟨hF, hM, hz1, hz2, hz3, hz4⟩ := hI
      have hBd : BadAt dbb dbr ltr k_ltr bd_ltr := by assumption
      refine wp_seq_k fun K16 hK16 => ?_
      refine wp_seq_k fun K17 hK17 => ?_
      by_cases hz5 : (k_ltr : Int) < (ltr.length : Int)
      · skip
        refine wp_region_lit ?_
        refine sB 3 [(25, .int .i64 (k_ltr : Int)), (26, .slice AA3 ltr.length cc3), (27, .int .i64 (ltr.length : Int))] hF (by kernel_rfl) fun a hF => ?_
        refine wl (eP 28 (v0 := .bool (decide ((k_ltr : Int) < (ltr.length : Int)))) (v := .bool true) hF (by kernel_rfl) (fun _ => by kernel_rfl) (bT hz5) fun a hF => ?_)
        refine sB 4 [(29, .bool true), (30, .int .i64 bd_ltr), (31, .bool (decide (bd_ltr < 0))), (32, .bool (decide (bd_ltr < 0)))] hF (by kernel_rfl) fun a hF => ?_
        refine wpList_nil ?_
        refine hK17 _ _ ?_
        by_cases hz6 : bd_ltr < 0
        · skip
          replace hF := hF.c hF (i := 31) (v := .bool true) rfl (bT hz6)
          replace hF := hF.c hF (i := 32) (v := .bool true) rfl (bT hz6)
          refine cT hF (by kernel_rfl) (by kernel_rfl) ?_
          refine wp_skip ?_
          refine hK16 _ _ ?_
          refine wp_seq_k fun K18 hK18 => ?_
          refine wp_block ?_
          refine wp_seq_k fun K19 hK19 => ?_
          have hta := tr_all tr_ltr k_ltr (by omega)
          have hlb := lv_bd (b := dbb) (r := dbr) (by omega) tr_ltr k_ltr (by omega)
          refine rQ hM (by kernel_rfl) (by kernel_rfl) ?_
          refine eQ 35 (v0 := .pointer (some ⟨bb2, 0, none⟩)) (v := .pointer (some ⟨bb2, 0, none⟩)) hF (by kernel_rfl) (fun _ => by kernel_rfl) rfl fun a hF => ?_
          refine eQL 36 4 0 (v := .int .i64 dbb) hF (by kernel_rfl) rfl rfl (by kernel_rfl) (by kernel_rfl) fun a hF => ?_
          refine eQ 37 (v0 := .int .i64 (IntKind.i64.wrap (dbb * 1048576))) (v := .int .i64 (dbb * 1048576)) hF (by kernel_rfl) (fun _ => by kernel_rfl) (wi (by omega)) fun a hF => ?_
          refine eQ 38 (v0 := .int .i64 (lvN dbb dbr ltr k_ltr)) (v := .int .i64 (lvN dbb dbr ltr k_ltr)) hF (by kernel_rfl) (fun _ => by kernel_rfl) rfl fun a hF => ?_
          refine eQ 39 (v0 := .pointer (some ⟨bb2, 1, none⟩)) (v := .pointer (some ⟨bb2, 1, none⟩)) hF (by kernel_rfl) (fun _ => by kernel_rfl) rfl fun a hF => ?_
          refine eQL 40 4 1 (v := .int .i64 dbr) hF (by kernel_rfl) rfl rfl (by kernel_rfl) (by kernel_rfl) fun a hF => ?_
          refine eQ 41 (v0 := .slice AA3 ltr.length cc3) (v := .slice AA3 ltr.length cc3) hF (by kernel_rfl) (fun _ => by kernel_rfl) rfl fun a hF => ?_
          refine eQ 42 (v0 := .int .i64 (k_ltr : Int)) (v := .int .i64 (k_ltr : Int)) hF (by kernel_rfl) (fun _ => by kernel_rfl) rfl fun a hF => ?_
          refine eQ2 43 (v := .pointer (some (ea AA3 (k_ltr * 2)))) hF (by kernel_rfl) (yld_ix (kd := .i64) (e := 30) (len := ltr.length) (cap := cc3) (i := (k_ltr : Int)) (size := 2) (A := AA3) hF rfl (by kernel_rfl) (by kernel_rfl) (by kernel_rfl) (by kernel_rfl) (by kernel_rfl) (roO 5 rfl) (by omega) (by omega) (by rw [flat2_length]; omega)) fun a hF => ?_
          refine eQ 44 (v0 := .pointer (some (ea AA3 (k_ltr * 2)))) (v := .pointer (some (ea AA3 (k_ltr * 2)))) hF (by kernel_rfl) (fun _ => by kernel_rfl) rfl fun a hF => ?_
          refine eQ2 45 (v := .int .i64 (pr ltr k_ltr).1) hF (by kernel_rfl) (yld_ro1 (A := AA3) (j := k_ltr * 2) hF rfl (by kernel_rfl) (by kernel_rfl) (roO 5 rfl) (by kernel_rfl) (pr_fst (k := k_ltr) (by omega) (by omega))) fun a hF => ?_
          refine eQ 46 (v0 := .int .i64 (laN ltr k_ltr)) (v := .int .i64 (laN ltr k_ltr)) hF (by kernel_rfl) (fun _ => by kernel_rfl) rfl fun a hF => ?_
          refine eQ 47 (v0 := .int .i64 (IntKind.i64.wrap ((pr ltr k_ltr).1 - laN ltr k_ltr))) (v := .int .i64 ((pr ltr k_ltr).1 - laN ltr k_ltr)) hF (by kernel_rfl) (fun _ => by kernel_rfl) (wi (by omega)) fun a hF => ?_
          have hz7 : 0 ≤ dbr * ((pr ltr k_ltr).1 - laN ltr k_ltr) ∧ dbr * ((pr ltr k_ltr).1 - laN ltr k_ltr) ≤ 2305843009213693952 := mul_bd (1) (2097152) (0) (1099511627776) (by omega) (by omega) (by omega) (by omega) (by decide)
          refine eQ 48 (v0 := .int .i64 (IntKind.i64.wrap (dbr * ((pr ltr k_ltr).1 - laN ltr k_ltr)))) (v := .int .i64 (dbr * ((pr ltr k_ltr).1 - laN ltr k_ltr))) hF (by kernel_rfl) (fun _ => by kernel_rfl) (wi (by omega)) fun a hF => ?_
          refine eQ 49 (v0 := .int .i64 (IntKind.i64.wrap (lvN dbb dbr ltr k_ltr + dbr * ((pr ltr k_ltr).1 - laN ltr k_ltr)))) (v := .int .i64 (lvN dbb dbr ltr k_ltr + dbr * ((pr ltr k_ltr).1 - laN ltr k_ltr))) hF (by kernel_rfl) (fun _ => by kernel_rfl) (wi (by omega)) fun a hF => ?_
          refine eQ 50 (v0 := .int .i64 (if lvN dbb dbr ltr k_ltr + dbr * ((pr ltr k_ltr).1 - laN ltr k_ltr) < dbb * 1048576 then lvN dbb dbr ltr k_ltr + dbr * ((pr ltr k_ltr).1 - laN ltr k_ltr) else dbb * 1048576)) (v := .int .i64 (min (dbb * 1048576) (lvN dbb dbr ltr k_ltr + dbr * ((pr ltr k_ltr).1 - laN ltr k_ltr)))) hF (by kernel_rfl) (fun _ => by kernel_rfl) (vi (min_if _ _)) fun a hF => ?_
          refine eQ 51 (v0 := .slice AA3 ltr.length cc3) (v := .slice AA3 ltr.length cc3) hF (by kernel_rfl) (fun _ => by kernel_rfl) rfl fun a hF => ?_
          refine eQ 52 (v0 := .int .i64 (k_ltr : Int)) (v := .int .i64 (k_ltr : Int)) hF (by kernel_rfl) (fun _ => by kernel_rfl) rfl fun a hF => ?_
          refine eQ2 53 (v := .pointer (some (ea AA3 (k_ltr * 2)))) hF (by kernel_rfl) (yld_ix (kd := .i64) (e := 30) (len := ltr.length) (cap := cc3) (i := (k_ltr : Int)) (size := 2) (A := AA3) hF rfl (by kernel_rfl) (by kernel_rfl) (by kernel_rfl) (by kernel_rfl) (by kernel_rfl) (roO 5 rfl) (by omega) (by omega) (by rw [flat2_length]; omega)) fun a hF => ?_
          refine eQ 54 (v0 := .pointer (some (ea AA3 (k_ltr * 2 + 1)))) (v := .pointer (some (ea AA3 (k_ltr * 2 + 1)))) hF (by kernel_rfl) (fun _ => by kernel_rfl) rfl fun a hF => ?_
          refine eQ2 55 (v := .int .i64 (pr ltr k_ltr).2) hF (by kernel_rfl) (yld_ro1 (A := AA3) (j := k_ltr * 2 + 1) hF rfl (by kernel_rfl) (by kernel_rfl) (roO 5 rfl) (by kernel_rfl) (pr_snd (k := k_ltr) (by omega) (by omega))) fun a hF => ?_
          refine eQ 56 (v0 := .int .i64 (IntKind.i64.wrap ((pr ltr k_ltr).2 * 1048576))) (v := .int .i64 ((pr ltr k_ltr).2 * 1048576)) hF (by kernel_rfl) (fun _ => by kernel_rfl) (wi (by omega)) fun a hF => ?_
          refine eQ 57 (v0 := .int .i64 (IntKind.i64.wrap (min (dbb * 1048576) (lvN dbb dbr ltr k_ltr + dbr * ((pr ltr k_ltr).1 - laN ltr k_ltr)) - (pr ltr k_ltr).2 * 1048576))) (v := .int .i64 (min (dbb * 1048576) (lvN dbb dbr ltr k_ltr + dbr * ((pr ltr k_ltr).1 - laN ltr k_ltr)) - (pr ltr k_ltr).2 * 1048576)) hF (by kernel_rfl) (fun _ => by kernel_rfl) (wi (by omega)) fun a hF => ?_
          refine eQ 6 (v0 := .int .i64 (min (dbb * 1048576) (lvN dbb dbr ltr k_ltr + dbr * ((pr ltr k_ltr).1 - laN ltr k_ltr)) - (pr ltr k_ltr).2 * 1048576)) (v := .int .i64 (min (dbb * 1048576) (lvN dbb dbr ltr k_ltr + dbr * ((pr ltr k_ltr).1 - laN ltr k_ltr)) - (pr ltr k_ltr).2 * 1048576)) hF (by kernel_rfl) (fun _ => by kernel_rfl) rfl fun a hF => ?_
          refine wpQuiet_nil ?_
          intro w hM
          refine hK19 _ _ ?_
          refine wp_seq_k fun K20 hK20 => ?_
          refine wp_region_lit ?_
          refine sB 2 [(58, .slice AA3 ltr.length cc3), (59, .int .i64 (k_ltr : Int))] hF (by kernel_rfl) fun a hF => ?_
          refine wl (eM 60 (v := .pointer (some (ea AA3 (k_ltr * 2)))) hF hM (by kernel_rfl) (yld_ix (kd := .i64) (e := 30) (len := ltr.length) (cap := cc3) (i := (k_ltr : Int)) (size := 2) (A := AA3) hF rfl (by kernel_rfl) (by kernel_rfl) (by kernel_rfl) (by kernel_rfl) (by kernel_rfl) (roO 5 rfl) (by omega) (by omega) (by rw [flat2_length]; omega)) fun a w hF hM => ?_)
          refine sB 1 [(61, .pointer (some (ea AA3 (k_ltr * 2))))] hF (by kernel_rfl) fun a hF => ?_
          refine wl (eM 62 (v := .int .i64 (pr ltr k_ltr).1) hF hM (by kernel_rfl) (yld_ro1 (A := AA3) (j := k_ltr * 2) hF rfl (by kernel_rfl) (by kernel_rfl) (roO 5 rfl) (by kernel_rfl) (pr_fst (k := k_ltr) (by omega) (by omega))) fun a w hF hM => ?_)
          refine sB 1 [(7, .int .i64 (pr ltr k_ltr).1)] hF (by kernel_rfl) fun a hF => ?_
          refine wpList_nil ?_
          refine hK20 _ _ ?_
          refine wp_seq_k fun K21 hK21 => ?_
          refine wp_region_lit ?_
          refine sB 2 [(63, .int .i64 (min (dbb * 1048576) (lvN dbb dbr ltr k_ltr + dbr * ((pr ltr k_ltr).1 - laN ltr k_ltr)) - (pr ltr k_ltr).2 * 1048576)), (64, .bool (decide (min (dbb * 1048576) (lvN dbb dbr ltr k_ltr + dbr * ((pr ltr k_ltr).1 - laN ltr k_ltr)) - (pr ltr k_ltr).2 * 1048576 < 0)))] hF (by kernel_rfl) fun a hF => ?_
          refine wpList_nil ?_
          refine hK21 _ _ ?_
          by_cases hz8 : min (dbb * 1048576) (lvN dbb dbr ltr k_ltr + dbr * ((pr ltr k_ltr).1 - laN ltr k_ltr)) - (pr ltr k_ltr).2 * 1048576 < 0
          · skip
            replace hF := hF.c hF (i := 64) (v := .bool true) rfl (bT hz8)
            refine cT hF (by kernel_rfl) (by kernel_rfl) ?_
            refine wp_region_lit ?_
            refine sB 2 [(65, .int .i64 (k_ltr : Int)), (8, .int .i64 (k_ltr : Int))] hF (by kernel_rfl) fun a hF => ?_
            refine wpList_nil ?_
            refine hK18 _ _ ?_
            refine wp_region_lit ?_
            refine sB 1 [(33, .int .i64 (k_ltr : Int))] hF (by kernel_rfl) fun a hF => ?_
            refine wl (eP 34 (v0 := .int .i64 (IntKind.i64.wrap ((k_ltr : Int) + 1))) (v := .int .i64 ((k_ltr : Int) + 1)) hF (by kernel_rfl) (fun _ => by kernel_rfl) (wi (by omega)) fun a hF => ?_)
            refine sB 1 [(9, .int .i64 ((k_ltr : Int) + 1))] hF (by kernel_rfl) fun a hF => ?_
            refine wpList_nil ?_
            have hlv : lvN dbb dbr ltr (k_ltr + 1) = min (dbb * 1048576) (lvN dbb dbr ltr k_ltr + dbr * ((pr ltr k_ltr).1 - laN ltr k_ltr)) - (pr ltr k_ltr).2 * 1048576 := rfl
            have hla : laN ltr (k_ltr + 1) = (pr ltr k_ltr).1 := rfl
            refine hK15 _ _ ⟨(k_ltr + 1, (k_ltr : Int)), ⟨((((((((((Fr.nil hF).c hF (i := 19) rfl rfl).c hF (i := 18) rfl rfl).c hF (i := 5) rfl rfl).c hF (i := 3) rfl rfl).c hF (i := 2) rfl rfl).c hF (i := 9) rfl (vi (show ((k_ltr : Int) + 1 : Int) = ((k_ltr + 1) : Int) from by omega))).c hF (i := 8) rfl rfl).c hF (i := 7) rfl (vi (show ((pr ltr k_ltr).1 : Int) = laN ltr (k_ltr + 1) from by omega))).c hF (i := 6) rfl (vi (show (min (dbb * 1048576) (lvN dbb dbr ltr k_ltr + dbr * ((pr ltr k_ltr).1 - laN ltr k_ltr)) - (pr ltr k_ltr).2 * 1048576 : Int) = lvN dbb dbr ltr (k_ltr + 1) from by omega))), (hM.sub (((((Sub.nil.c (k := 6) rfl rfl).c (k := 5) rfl rfl).c (k := 4) rfl rfl).c (k := 2) rfl rfl).c (k := 1) rfl rfl)), (show ((k_ltr + 1) : Int) ≤ (ltr.length : Int) from by omega), (show BadAt dbb dbr ltr (k_ltr + 1) (k_ltr : Int) from by exact hBd.bad (by omega) (by omega) (by omega)), (show -1 ≤ (k_ltr : Int) from by omega), (show (k_ltr : Int) ≤ ((k_ltr + 1) : Int) from by omega)⟩, (show ltr.length - (k_ltr + 1) < ltr.length - k_ltr from by omega)⟩
          · skip
            replace hF := hF.c hF (i := 64) (v := .bool false) rfl (bF hz8)
            refine cF hF (by kernel_rfl) (by kernel_rfl) ?_
            refine wp_skip ?_
            refine hK18 _ _ ?_
            refine wp_region_lit ?_
            refine sB 1 [(33, .int .i64 (k_ltr : Int))] hF (by kernel_rfl) fun a hF => ?_
            refine wl (eP 34 (v0 := .int .i64 (IntKind.i64.wrap ((k_ltr : Int) + 1))) (v := .int .i64 ((k_ltr : Int) + 1)) hF (by kernel_rfl) (fun _ => by kernel_rfl) (wi (by omega)) fun a hF => ?_)
            refine sB 1 [(9, .int .i64 ((k_ltr : Int) + 1))] hF (by kernel_rfl) fun a hF => ?_
            refine wpList_nil ?_
            have hlv : lvN dbb dbr ltr (k_ltr + 1) = min (dbb * 1048576) (lvN dbb dbr ltr k_ltr + dbr * ((pr ltr k_ltr).1 - laN ltr k_ltr)) - (pr ltr k_ltr).2 * 1048576 := rfl
            have hla : laN ltr (k_ltr + 1) = (pr ltr k_ltr).1 := rfl
            refine hK15 _ _ ⟨(k_ltr + 1, bd_ltr), ⟨((((((((((Fr.nil hF).c hF (i := 19) rfl rfl).c hF (i := 18) rfl rfl).c hF (i := 5) rfl rfl).c hF (i := 3) rfl rfl).c hF (i := 2) rfl rfl).c hF (i := 9) rfl (vi (show ((k_ltr : Int) + 1 : Int) = ((k_ltr + 1) : Int) from by omega))).c hF (i := 8) rfl rfl).c hF (i := 7) rfl (vi (show ((pr ltr k_ltr).1 : Int) = laN ltr (k_ltr + 1) from by omega))).c hF (i := 6) rfl (vi (show (min (dbb * 1048576) (lvN dbb dbr ltr k_ltr + dbr * ((pr ltr k_ltr).1 - laN ltr k_ltr)) - (pr ltr k_ltr).2 * 1048576 : Int) = lvN dbb dbr ltr (k_ltr + 1) from by omega))), (hM.sub (((((Sub.nil.c (k := 6) rfl rfl).c (k := 5) rfl rfl).c (k := 4) rfl rfl).c (k := 2) rfl rfl).c (k := 1) rfl rfl)), (show ((k_ltr + 1) : Int) ≤ (ltr.length : Int) from by omega), (show BadAt dbb dbr ltr (k_ltr + 1) bd_ltr from by exact hBd.good (by omega) (by omega)), (show -1 ≤ bd_ltr from by omega), (show bd_ltr ≤ ((k_ltr + 1) : Int) from by omega)⟩, (show ltr.length - (k_ltr + 1) < ltr.length - k_ltr from by omega)⟩
        · skip
          replace hF := hF.c hF (i := 31) (v := .bool false) rfl (bF hz6)
          replace hF := hF.c hF (i := 32) (v := .bool false) rfl (bF hz6)
          refine cF hF (by kernel_rfl) (by kernel_rfl) ?_
          refine wp_exit ?_
          refine hK13 _ _ ?_
          refine wp_seq_k fun K22 hK22 => ?_
          have hck : ckE dbb dbr ltr = 0 := ckE_zero hdb tr_ltr
          have hfi := hBd.done (by omega)
          have hfb : fiB dbb dbr ltr bd_ltr = true := decide_eq_true ⟨by rw [fiV_yes hck, hfi], hck⟩
          have hcf : cfB dbb dbr ltr = false := by rw [cfB_yes hck, hfi]; exact decide_eq_false (by omega)
          refine wp_region_lit ?_
          refine wl (eL 66 4 0 (v := .agg #[.int .i64 dbb, .int .i64 dbr]) hF hM (by kernel_rfl) rfl rfl (by kernel_rfl) (by kernel_rfl) fun a w hF hM => ?_)
          refine sB 2 [(67, .slice AA3 ltr.length cc3), (68, .int .i64 bd_ltr)] hF (by kernel_rfl) fun a hF => ?_
          refine wl (eM 69 (v := .bool true) hF hM (by kernel_rfl) (Yld.to (yld_call (f := 29) (args := #[.agg #[.int .i64 dbb, .int .i64 dbr], .slice AA3 ltr.length cc3, .int .i64 bd_ltr]) hF (by kernel_rfl) (fun _ => by kernel_rfl) (fun w hM => first3_w dbb dbr AA3 ltr _ bd_ltr w (ro_of_own (hM.ok 5 _ rfl)))) (congrArg Value.bool hfb)) fun a w hF hM => ?_)
          refine sB 2 [(70, .bool false), (71, .bool false)] hF (by kernel_rfl) fun a hF => ?_
          refine wl (eL 72 4 0 (v := .agg #[.int .i64 dbb, .int .i64 dbr]) hF hM (by kernel_rfl) rfl rfl (by kernel_rfl) (by kernel_rfl) fun a w hF hM => ?_)
          refine sB 1 [(73, .slice AA3 ltr.length cc3)] hF (by kernel_rfl) fun a hF => ?_
          refine wl (eM 74 (v := .bool false) hF hM (by kernel_rfl) (Yld.to (yld_call (f := 30) (args := #[.agg #[.int .i64 dbb, .int .i64 dbr], .slice AA3 ltr.length cc3]) hF (by kernel_rfl) (fun _ => by kernel_rfl) (fun w hM => fits3_w dbb dbr AA3 ltr _ w (ro_of_own (hM.ok 5 _ rfl)))) (congrArg Value.bool hcf)) fun a w hF hM => ?_)
          refine sB 1 [(75, .int .i64 bd_ltr)] hF (by kernel_rfl) fun a hF => ?_
          refine wl (eP 76 (v0 := .bool (decide (bd_ltr < 0))) (v := .bool false) hF (by kernel_rfl) (fun _ => by kernel_rfl) (bF hz6) fun a hF => ?_)
          refine sB 2 [(77, .bool false), (78, .bool false)] hF (by kernel_rfl) fun a hF => ?_
          refine wpList_nil ?_
          refine hK22 _ _ ?_
          refine cF hF (by kernel_rfl) (by kernel_rfl) ?_
          refine wp_skip ?_
          refine hK10 _ _ ?_
          refine wp_region_lit ?_
          refine wl (eP 79 (v0 := .int .i64 (IntKind.i64.wrap (0 + 1))) (v := .int .i64 1) hF (by kernel_rfl) (fun _ => by kernel_rfl) (vi (by decide)) fun a hF => ?_)
          refine sB 1 [(19, .int .i64 1)] hF (by kernel_rfl) fun a hF => ?_
          refine wpList_nil ?_
          refine hK7 _ _ ?_
          refine rounds_k fun K23 hK23 => ?_
          refine wp_seq_k fun K24 hK24 => ?_
          refine wp_region_lit ?_
          refine wl (eP 20 (v0 := .bool (decide (1 < 2))) (v := .bool true) hF (by kernel_rfl) (fun _ => by kernel_rfl) (bT (by omega)) fun a hF => ?_)
          refine wpList_nil ?_
          refine hK24 _ _ ?_
          refine wp_seq_k fun K25 hK25 => ?_
          refine cT hF (by kernel_rfl) (by kernel_rfl) ?_
          refine wp_skip ?_
          refine hK25 _ _ ?_
          refine wp_seq_k fun K26 hK26 => ?_
          refine wp_block ?_
          refine wp_seq_k fun K27 hK27 => ?_
          refine wp_region_lit ?_
          refine sB 2 [(21, .slice AA4 lcf.length cc4), (5, .slice AA4 lcf.length cc4)] hF (by kernel_rfl) fun a hF => ?_
          refine wpList_nil ?_
          refine hK27 _ _ ?_
          refine wp_seq_k fun K28 hK28 => ?_
          refine wp_region_lit ?_
          refine sB 1 [(22, .pointer (some ⟨bb2, 0, none⟩))] hF (by kernel_rfl) fun a hF => ?_
          refine wl (eL 23 4 0 (v := .int .i64 dbb) hF hM (by kernel_rfl) rfl rfl (by kernel_rfl) (by kernel_rfl) fun a w hF hM => ?_)
          refine wl (eP 24 (v0 := .int .i64 (IntKind.i64.wrap (dbb * 1048576))) (v := .int .i64 (dbb * 1048576)) hF (by kernel_rfl) (fun _ => by kernel_rfl) (wi (by omega)) fun a hF => ?_)
          refine sB 3 [(6, .int .i64 (dbb * 1048576)), (7, .int .i64 0), (8, .int .i64 (-1))] hF (by kernel_rfl) fun a hF => ?_
          refine wpList_nil ?_
          refine hK28 _ _ ?_
          refine wp_seq_k fun K29 hK29 => ?_
          refine wp_seq_k fun K30 hK30 => ?_
          have hl0 : lvN dbb dbr lcf 0 = dbb * 1048576 := rfl
          have ha0 : laN lcf 0 = 0 := rfl
          refine wp_region_lit ?_
          refine sB 1 [(9, .int .i64 0)] hF (by kernel_rfl) fun a hF => ?_
          refine wpList_nil ?_
          refine hK30 _ _ ?_
          refine wp_block ?_
          refine wp_loop_k (G := Nat × Int) (fun gg a w => Fr 80 [(6, some (.int .i64 (lvN dbb dbr lcf gg.1))), (7, some (.int .i64 (laN lcf gg.1))), (8, some (.int .i64 gg.2)), (9, some (.int .i64 (gg.1 : Int))), (2, some (.bool false)), (3, some (.pointer (some ⟨bb2, 0, none⟩))), (5, some (.slice AA4 lcf.length cc4)), (18, some (.agg #[.slice AA3 ltr.length cc3, .slice AA4 lcf.length cc4])), (19, some (.int .i64 1))] a ∧ Mem w0.heap.size w0 [(1, some (.ro Ga (gaps.map (Value.int .u16)))), (2, some (.ro Sa (sizes.map (Value.int .u16)))), (4, some (.row bb2 23 #[.int .i64 dbb, .int .i64 dbr])), (5, some (.own (.slice AA3 ltr.length cc3) 30 2 ltr.length (flat2 ltr))), (6, some (.own (.slice AA4 lcf.length cc4) 30 2 lcf.length (flat2 lcf)))] w ∧ ((gg.1 : Int) ≤ (lcf.length : Int)) ∧ (BadAt dbb dbr lcf gg.1 gg.2) ∧ (-1 ≤ gg.2) ∧ (gg.2 ≤ (gg.1 : Int))) (fun gg => lcf.length - gg.1) (0, -1) ?_ ?_
          · refine ⟨((((((((((Fr.nil hF).c hF (i := 19) rfl rfl).c hF (i := 18) rfl rfl).c hF (i := 5) rfl rfl).c hF (i := 3) rfl rfl).c hF (i := 2) rfl rfl).c hF (i := 9) rfl (vi (show (0 : Int) = (0 : Int) from by omega))).c hF (i := 8) rfl rfl).c hF (i := 7) rfl (vi (show (0 : Int) = laN lcf 0 from by omega))).c hF (i := 6) rfl (vi (show (dbb * 1048576 : Int) = lvN dbb dbr lcf 0 from by omega))), (hM.sub (((((Sub.nil.c (k := 6) rfl rfl).c (k := 5) rfl rfl).c (k := 4) rfl rfl).c (k := 2) rfl rfl).c (k := 1) rfl rfl)), (show (0 : Int) ≤ (lcf.length : Int) from by omega), (show BadAt dbb dbr lcf 0 (-1) from by exact BadAt.zero _ _ _), (show -1 ≤ (-1) from by omega), (show (-1) ≤ (0 : Int) from by omega)⟩
          · intro gg a w hI
            intro K31 hK31
            obtain ⟨k_lcf, bd_lcf⟩ := gg
            try dsimp only at hI hK31
            obtain ⟨hF, hM, hz9, hz10, hz11, hz12⟩ := hI
            have hBd : BadAt dbb dbr lcf k_lcf bd_lcf := by assumption
            refine wp_seq_k fun K32 hK32 => ?_
            refine wp_seq_k fun K33 hK33 => ?_
            by_cases hz13 : (k_lcf : Int) < (lcf.length : Int)
            · skip
              refine wp_region_lit ?_
              refine sB 3 [(25, .int .i64 (k_lcf : Int)), (26, .slice AA4 lcf.length cc4), (27, .int .i64 (lcf.length : Int))] hF (by kernel_rfl) fun a hF => ?_
              refine wl (eP 28 (v0 := .bool (decide ((k_lcf : Int) < (lcf.length : Int)))) (v := .bool true) hF (by kernel_rfl) (fun _ => by kernel_rfl) (bT hz13) fun a hF => ?_)
              refine sB 4 [(29, .bool true), (30, .int .i64 bd_lcf), (31, .bool (decide (bd_lcf < 0))), (32, .bool (decide (bd_lcf < 0)))] hF (by kernel_rfl) fun a hF => ?_
              refine wpList_nil ?_
              refine hK33 _ _ ?_
              by_cases hz14 : bd_lcf < 0
              · skip
                replace hF := hF.c hF (i := 31) (v := .bool true) rfl (bT hz14)
                replace hF := hF.c hF (i := 32) (v := .bool true) rfl (bT hz14)
                refine cT hF (by kernel_rfl) (by kernel_rfl) ?_
                refine wp_skip ?_
                refine hK32 _ _ ?_
                refine wp_seq_k fun K34 hK34 => ?_
                refine wp_block ?_
                refine wp_seq_k fun K35 hK35 => ?_
                have hta := tr_all tr_lcf k_lcf (by omega)
                have hlb := lv_bd (b := dbb) (r := dbr) (by omega) tr_lcf k_lcf (by omega)
                refine rQ hM (by kernel_rfl) (by kernel_rfl) ?_
                refine eQ 35 (v0 := .pointer (some ⟨bb2, 0, none⟩)) (v := .pointer (some ⟨bb2, 0, none⟩)) hF (by kernel_rfl) (fun _ => by kernel_rfl) rfl fun a hF => ?_
                refine eQL 36 4 0 (v := .int .i64 dbb) hF (by kernel_rfl) rfl rfl (by kernel_rfl) (by kernel_rfl) fun a hF => ?_
                refine eQ 37 (v0 := .int .i64 (IntKind.i64.wrap (dbb * 1048576))) (v := .int .i64 (dbb * 1048576)) hF (by kernel_rfl) (fun _ => by kernel_rfl) (wi (by omega)) fun a hF => ?_
                refine eQ 38 (v0 := .int .i64 (lvN dbb dbr lcf k_lcf)) (v := .int .i64 (lvN dbb dbr lcf k_lcf)) hF (by kernel_rfl) (fun _ => by kernel_rfl) rfl fun a hF => ?_
                refine eQ 39 (v0 := .pointer (some ⟨bb2, 1, none⟩)) (v := .pointer (some ⟨bb2, 1, none⟩)) hF (by kernel_rfl) (fun _ => by kernel_rfl) rfl fun a hF => ?_
                refine eQL 40 4 1 (v := .int .i64 dbr) hF (by kernel_rfl) rfl rfl (by kernel_rfl) (by kernel_rfl) fun a hF => ?_
                refine eQ 41 (v0 := .slice AA4 lcf.length cc4) (v := .slice AA4 lcf.length cc4) hF (by kernel_rfl) (fun _ => by kernel_rfl) rfl fun a hF => ?_
                refine eQ 42 (v0 := .int .i64 (k_lcf : Int)) (v := .int .i64 (k_lcf : Int)) hF (by kernel_rfl) (fun _ => by kernel_rfl) rfl fun a hF => ?_
                refine eQ2 43 (v := .pointer (some (ea AA4 (k_lcf * 2)))) hF (by kernel_rfl) (yld_ix (kd := .i64) (e := 30) (len := lcf.length) (cap := cc4) (i := (k_lcf : Int)) (size := 2) (A := AA4) hF rfl (by kernel_rfl) (by kernel_rfl) (by kernel_rfl) (by kernel_rfl) (by kernel_rfl) (roO 6 rfl) (by omega) (by omega) (by rw [flat2_length]; omega)) fun a hF => ?_
                refine eQ 44 (v0 := .pointer (some (ea AA4 (k_lcf * 2)))) (v := .pointer (some (ea AA4 (k_lcf * 2)))) hF (by kernel_rfl) (fun _ => by kernel_rfl) rfl fun a hF => ?_
                refine eQ2 45 (v := .int .i64 (pr lcf k_lcf).1) hF (by kernel_rfl) (yld_ro1 (A := AA4) (j := k_lcf * 2) hF rfl (by kernel_rfl) (by kernel_rfl) (roO 6 rfl) (by kernel_rfl) (pr_fst (k := k_lcf) (by omega) (by omega))) fun a hF => ?_
                refine eQ 46 (v0 := .int .i64 (laN lcf k_lcf)) (v := .int .i64 (laN lcf k_lcf)) hF (by kernel_rfl) (fun _ => by kernel_rfl) rfl fun a hF => ?_
                refine eQ 47 (v0 := .int .i64 (IntKind.i64.wrap ((pr lcf k_lcf).1 - laN lcf k_lcf))) (v := .int .i64 ((pr lcf k_lcf).1 - laN lcf k_lcf)) hF (by kernel_rfl) (fun _ => by kernel_rfl) (wi (by omega)) fun a hF => ?_
                have hz15 : 0 ≤ dbr * ((pr lcf k_lcf).1 - laN lcf k_lcf) ∧ dbr * ((pr lcf k_lcf).1 - laN lcf k_lcf) ≤ 2305843009213693952 := mul_bd (1) (2097152) (0) (1099511627776) (by omega) (by omega) (by omega) (by omega) (by decide)
                refine eQ 48 (v0 := .int .i64 (IntKind.i64.wrap (dbr * ((pr lcf k_lcf).1 - laN lcf k_lcf)))) (v := .int .i64 (dbr * ((pr lcf k_lcf).1 - laN lcf k_lcf))) hF (by kernel_rfl) (fun _ => by kernel_rfl) (wi (by omega)) fun a hF => ?_
                refine eQ 49 (v0 := .int .i64 (IntKind.i64.wrap (lvN dbb dbr lcf k_lcf + dbr * ((pr lcf k_lcf).1 - laN lcf k_lcf)))) (v := .int .i64 (lvN dbb dbr lcf k_lcf + dbr * ((pr lcf k_lcf).1 - laN lcf k_lcf))) hF (by kernel_rfl) (fun _ => by kernel_rfl) (wi (by omega)) fun a hF => ?_
                refine eQ 50 (v0 := .int .i64 (if lvN dbb dbr lcf k_lcf + dbr * ((pr lcf k_lcf).1 - laN lcf k_lcf) < dbb * 1048576 then lvN dbb dbr lcf k_lcf + dbr * ((pr lcf k_lcf).1 - laN lcf k_lcf) else dbb * 1048576)) (v := .int .i64 (min (dbb * 1048576) (lvN dbb dbr lcf k_lcf + dbr * ((pr lcf k_lcf).1 - laN lcf k_lcf)))) hF (by kernel_rfl) (fun _ => by kernel_rfl) (vi (min_if _ _)) fun a hF => ?_
                refine eQ 51 (v0 := .slice AA4 lcf.length cc4) (v := .slice AA4 lcf.length cc4) hF (by kernel_rfl) (fun _ => by kernel_rfl) rfl fun a hF => ?_
                refine eQ 52 (v0 := .int .i64 (k_lcf : Int)) (v := .int .i64 (k_lcf : Int)) hF (by kernel_rfl) (fun _ => by kernel_rfl) rfl fun a hF => ?_
                refine eQ2 53 (v := .pointer (some (ea AA4 (k_lcf * 2)))) hF (by kernel_rfl) (yld_ix (kd := .i64) (e := 30) (len := lcf.length) (cap := cc4) (i := (k_lcf : Int)) (size := 2) (A := AA4) hF rfl (by kernel_rfl) (by kernel_rfl) (by kernel_rfl) (by kernel_rfl) (by kernel_rfl) (roO 6 rfl) (by omega) (by omega) (by rw [flat2_length]; omega)) fun a hF => ?_
                refine eQ 54 (v0 := .pointer (some (ea AA4 (k_lcf * 2 + 1)))) (v := .pointer (some (ea AA4 (k_lcf * 2 + 1)))) hF (by kernel_rfl) (fun _ => by kernel_rfl) rfl fun a hF => ?_
                refine eQ2 55 (v := .int .i64 (pr lcf k_lcf).2) hF (by kernel_rfl) (yld_ro1 (A := AA4) (j := k_lcf * 2 + 1) hF rfl (by kernel_rfl) (by kernel_rfl) (roO 6 rfl) (by kernel_rfl) (pr_snd (k := k_lcf) (by omega) (by omega))) fun a hF => ?_
                refine eQ 56 (v0 := .int .i64 (IntKind.i64.wrap ((pr lcf k_lcf).2 * 1048576))) (v := .int .i64 ((pr lcf k_lcf).2 * 1048576)) hF (by kernel_rfl) (fun _ => by kernel_rfl) (wi (by omega)) fun a hF => ?_
                refine eQ 57 (v0 := .int .i64 (IntKind.i64.wrap (min (dbb * 1048576) (lvN dbb dbr lcf k_lcf + dbr * ((pr lcf k_lcf).1 - laN lcf k_lcf)) - (pr lcf k_lcf).2 * 1048576))) (v := .int .i64 (min (dbb * 1048576) (lvN dbb dbr lcf k_lcf + dbr * ((pr lcf k_lcf).1 - laN lcf k_lcf)) - (pr lcf k_lcf).2 * 1048576)) hF (by kernel_rfl) (fun _ => by kernel_rfl) (wi (by omega)) fun a hF => ?_
                refine eQ 6 (v0 := .int .i64 (min (dbb * 1048576) (lvN dbb dbr lcf k_lcf + dbr * ((pr lcf k_lcf).1 - laN lcf k_lcf)) - (pr lcf k_lcf).2 * 1048576)) (v := .int .i64 (min (dbb * 1048576) (lvN dbb dbr lcf k_lcf + dbr * ((pr lcf k_lcf).1 - laN lcf k_lcf)) - (pr lcf k_lcf).2 * 1048576)) hF (by kernel_rfl) (fun _ => by kernel_rfl) rfl fun a hF => ?_
                refine wpQuiet_nil ?_
                intro w hM
                refine hK35 _ _ ?_
                refine wp_seq_k fun K36 hK36 => ?_
                refine wp_region_lit ?_
                refine sB 2 [(58, .slice AA4 lcf.length cc4), (59, .int .i64 (k_lcf : Int))] hF (by kernel_rfl) fun a hF => ?_
                refine wl (eM 60 (v := .pointer (some (ea AA4 (k_lcf * 2)))) hF hM (by kernel_rfl) (yld_ix (kd := .i64) (e := 30) (len := lcf.length) (cap := cc4) (i := (k_lcf : Int)) (size := 2) (A := AA4) hF rfl (by kernel_rfl) (by kernel_rfl) (by kernel_rfl) (by kernel_rfl) (by kernel_rfl) (roO 6 rfl) (by omega) (by omega) (by rw [flat2_length]; omega)) fun a w hF hM => ?_)
                refine sB 1 [(61, .pointer (some (ea AA4 (k_lcf * 2))))] hF (by kernel_rfl) fun a hF => ?_
                refine wl (eM 62 (v := .int .i64 (pr lcf k_lcf).1) hF hM (by kernel_rfl) (yld_ro1 (A := AA4) (j := k_lcf * 2) hF rfl (by kernel_rfl) (by kernel_rfl) (roO 6 rfl) (by kernel_rfl) (pr_fst (k := k_lcf) (by omega) (by omega))) fun a w hF hM => ?_)
                refine sB 1 [(7, .int .i64 (pr lcf k_lcf).1)] hF (by kernel_rfl) fun a hF => ?_
                refine wpList_nil ?_
                refine hK36 _ _ ?_
                refine wp_seq_k fun K37 hK37 => ?_
                refine wp_region_lit ?_
                refine sB 2 [(63, .int .i64 (min (dbb * 1048576) (lvN dbb dbr lcf k_lcf + dbr * ((pr lcf k_lcf).1 - laN lcf k_lcf)) - (pr lcf k_lcf).2 * 1048576)), (64, .bool (decide (min (dbb * 1048576) (lvN dbb dbr lcf k_lcf + dbr * ((pr lcf k_lcf).1 - laN lcf k_lcf)) - (pr lcf k_lcf).2 * 1048576 < 0)))] hF (by kernel_rfl) fun a hF => ?_
                refine wpList_nil ?_
                refine hK37 _ _ ?_
                by_cases hz16 : min (dbb * 1048576) (lvN dbb dbr lcf k_lcf + dbr * ((pr lcf k_lcf).1 - laN lcf k_lcf)) - (pr lcf k_lcf).2 * 1048576 < 0
                · skip
                  replace hF := hF.c hF (i := 64) (v := .bool true) rfl (bT hz16)
                  refine cT hF (by kernel_rfl) (by kernel_rfl) ?_
                  refine wp_region_lit ?_
                  refine sB 2 [(65, .int .i64 (k_lcf : Int)), (8, .int .i64 (k_lcf : Int))] hF (by kernel_rfl) fun a hF => ?_
                  refine wpList_nil ?_
                  refine hK34 _ _ ?_
                  refine wp_region_lit ?_
                  refine sB 1 [(33, .int .i64 (k_lcf : Int))] hF (by kernel_rfl) fun a hF => ?_
                  refine wl (eP 34 (v0 := .int .i64 (IntKind.i64.wrap ((k_lcf : Int) + 1))) (v := .int .i64 ((k_lcf : Int) + 1)) hF (by kernel_rfl) (fun _ => by kernel_rfl) (wi (by omega)) fun a hF => ?_)
                  refine sB 1 [(9, .int .i64 ((k_lcf : Int) + 1))] hF (by kernel_rfl) fun a hF => ?_
                  refine wpList_nil ?_
                  have hlv : lvN dbb dbr lcf (k_lcf + 1) = min (dbb * 1048576) (lvN dbb dbr lcf k_lcf + dbr * ((pr lcf k_lcf).1 - laN lcf k_lcf)) - (pr lcf k_lcf).2 * 1048576 := rfl
                  have hla : laN lcf (k_lcf + 1) = (pr lcf k_lcf).1 := rfl
                  refine hK31 _ _ ⟨(k_lcf + 1, (k_lcf : Int)), ⟨((((((((((Fr.nil hF).c hF (i := 19) rfl rfl).c hF (i := 18) rfl rfl).c hF (i := 5) rfl rfl).c hF (i := 3) rfl rfl).c hF (i := 2) rfl rfl).c hF (i := 9) rfl (vi (show ((k_lcf : Int) + 1 : Int) = ((k_lcf + 1) : Int) from by omega))).c hF (i := 8) rfl rfl).c hF (i := 7) rfl (vi (show ((pr lcf k_lcf).1 : Int) = laN lcf (k_lcf + 1) from by omega))).c hF (i := 6) rfl (vi (show (min (dbb * 1048576) (lvN dbb dbr lcf k_lcf + dbr * ((pr lcf k_lcf).1 - laN lcf k_lcf)) - (pr lcf k_lcf).2 * 1048576 : Int) = lvN dbb dbr lcf (k_lcf + 1) from by omega))), (hM.sub (((((Sub.nil.c (k := 6) rfl rfl).c (k := 5) rfl rfl).c (k := 4) rfl rfl).c (k := 2) rfl rfl).c (k := 1) rfl rfl)), (show ((k_lcf + 1) : Int) ≤ (lcf.length : Int) from by omega), (show BadAt dbb dbr lcf (k_lcf + 1) (k_lcf : Int) from by exact hBd.bad (by omega) (by omega) (by omega)), (show -1 ≤ (k_lcf : Int) from by omega), (show (k_lcf : Int) ≤ ((k_lcf + 1) : Int) from by omega)⟩, (show lcf.length - (k_lcf + 1) < lcf.length - k_lcf from by omega)⟩
                · skip
                  replace hF := hF.c hF (i := 64) (v := .bool false) rfl (bF hz16)
                  refine cF hF (by kernel_rfl) (by kernel_rfl) ?_
                  refine wp_skip ?_
                  refine hK34 _ _ ?_
                  refine wp_region_lit ?_
                  refine sB 1 [(33, .int .i64 (k_lcf : Int))] hF (by kernel_rfl) fun a hF => ?_
                  refine wl (eP 34 (v0 := .int .i64 (IntKind.i64.wrap ((k_lcf : Int) + 1))) (v := .int .i64 ((k_lcf : Int) + 1)) hF (by kernel_rfl) (fun _ => by kernel_rfl) (wi (by omega)) fun a hF => ?_)
                  refine sB 1 [(9, .int .i64 ((k_lcf : Int) + 1))] hF (by kernel_rfl) fun a hF => ?_
                  refine wpList_nil ?_
                  have hlv : lvN dbb dbr lcf (k_lcf + 1) = min (dbb * 1048576) (lvN dbb dbr lcf k_lcf + dbr * ((pr lcf k_lcf).1 - laN lcf k_lcf)) - (pr lcf k_lcf).2 * 1048576 := rfl
                  have hla : laN lcf (k_lcf + 1) = (pr lcf k_lcf).1 := rfl
                  refine hK31 _ _ ⟨(k_lcf + 1, bd_lcf), ⟨((((((((((Fr.nil hF).c hF (i := 19) rfl rfl).c hF (i := 18) rfl rfl).c hF (i := 5) rfl rfl).c hF (i := 3) rfl rfl).c hF (i := 2) rfl rfl).c hF (i := 9) rfl (vi (show ((k_lcf : Int) + 1 : Int) = ((k_lcf + 1) : Int) from by omega))).c hF (i := 8) rfl rfl).c hF (i := 7) rfl (vi (show ((pr lcf k_lcf).1 : Int) = laN lcf (k_lcf + 1) from by omega))).c hF (i := 6) rfl (vi (show (min (dbb * 1048576) (lvN dbb dbr lcf k_lcf + dbr * ((pr lcf k_lcf).1 - laN lcf k_lcf)) - (pr lcf k_lcf).2 * 1048576 : Int) = lvN dbb dbr lcf (k_lcf + 1) from by omega))), (hM.sub (((((Sub.nil.c (k := 6) rfl rfl).c (k := 5) rfl rfl).c (k := 4) rfl rfl).c (k := 2) rfl rfl).c (k := 1) rfl rfl)), (show ((k_lcf + 1) : Int) ≤ (lcf.length : Int) from by omega), (show BadAt dbb dbr lcf (k_lcf + 1) bd_lcf from by exact hBd.good (by omega) (by omega)), (show -1 ≤ bd_lcf from by omega), (show bd_lcf ≤ ((k_lcf + 1) : Int) from by omega)⟩, (show lcf.length - (k_lcf + 1) < lcf.length - k_lcf from by omega)⟩
              · skip
                replace hF := hF.c hF (i := 31) (v := .bool false) rfl (bF hz14)
                replace hF := hF.c hF (i := 32) (v := .bool false) rfl (bF hz14)
                refine cF hF (by kernel_rfl) (by kernel_rfl) ?_
                refine wp_exit ?_
                refine hK29 _ _ ?_
                refine wp_seq_k fun K38 hK38 => ?_
                have hck : ckE dbb dbr lcf = 0 := ckE_zero hdb tr_lcf
                have hfi := hBd.done (by omega)
                have hfb : fiB dbb dbr lcf bd_lcf = true := decide_eq_true ⟨by rw [fiV_yes hck, hfi], hck⟩
                have hcf : cfB dbb dbr lcf = false := by rw [cfB_yes hck, hfi]; exact decide_eq_false (by omega)
                refine wp_region_lit ?_
                refine wl (eL 66 4 0 (v := .agg #[.int .i64 dbb, .int .i64 dbr]) hF hM (by kernel_rfl) rfl rfl (by kernel_rfl) (by kernel_rfl) fun a w hF hM => ?_)
                refine sB 2 [(67, .slice AA4 lcf.length cc4), (68, .int .i64 bd_lcf)] hF (by kernel_rfl) fun a hF => ?_
                refine wl (eM 69 (v := .bool true) hF hM (by kernel_rfl) (Yld.to (yld_call (f := 29) (args := #[.agg #[.int .i64 dbb, .int .i64 dbr], .slice AA4 lcf.length cc4, .int .i64 bd_lcf]) hF (by kernel_rfl) (fun _ => by kernel_rfl) (fun w hM => first3_w dbb dbr AA4 lcf _ bd_lcf w (ro_of_own (hM.ok 6 _ rfl)))) (congrArg Value.bool hfb)) fun a w hF hM => ?_)
                refine sB 2 [(70, .bool false), (71, .bool false)] hF (by kernel_rfl) fun a hF => ?_
                refine wl (eL 72 4 0 (v := .agg #[.int .i64 dbb, .int .i64 dbr]) hF hM (by kernel_rfl) rfl rfl (by kernel_rfl) (by kernel_rfl) fun a w hF hM => ?_)
                refine sB 1 [(73, .slice AA4 lcf.length cc4)] hF (by kernel_rfl) fun a hF => ?_
                refine wl (eM 74 (v := .bool false) hF hM (by kernel_rfl) (Yld.to (yld_call (f := 30) (args := #[.agg #[.int .i64 dbb, .int .i64 dbr], .slice AA4 lcf.length cc4]) hF (by kernel_rfl) (fun _ => by kernel_rfl) (fun w hM => fits3_w dbb dbr AA4 lcf _ w (ro_of_own (hM.ok 6 _ rfl)))) (congrArg Value.bool hcf)) fun a w hF hM => ?_)
                refine sB 1 [(75, .int .i64 bd_lcf)] hF (by kernel_rfl) fun a hF => ?_
                refine wl (eP 76 (v0 := .bool (decide (bd_lcf < 0))) (v := .bool false) hF (by kernel_rfl) (fun _ => by kernel_rfl) (bF hz14) fun a hF => ?_)
                refine sB 2 [(77, .bool false), (78, .bool false)] hF (by kernel_rfl) fun a hF => ?_
                refine wpList_nil ?_
                refine hK38 _ _ ?_
                refine cF hF (by kernel_rfl) (by kernel_rfl) ?_
                refine wp_skip ?_
                refine hK26 _ _ ?_
                refine wp_region_lit ?_
                refine wl (eP 79 (v0 := .int .i64 (IntKind.i64.wrap (1 + 1))) (v := .int .i64 2) hF (by kernel_rfl) (fun _ => by kernel_rfl) (vi (by decide)) fun a hF => ?_)
                refine sB 1 [(19, .int .i64 2)] hF (by kernel_rfl) fun a hF => ?_
                refine wpList_nil ?_
                refine hK23 _ _ ?_
                refine rounds_k fun K39 hK39 => ?_
                refine wp_seq_k fun K40 hK40 => ?_
                refine wp_region_lit ?_
                refine wl (eP 20 (v0 := .bool (decide (2 < 2))) (v := .bool false) hF (by kernel_rfl) (fun _ => by kernel_rfl) (bF (by omega)) fun a hF => ?_)
                refine wpList_nil ?_
                refine hK40 _ _ ?_
                refine wp_seq_k fun K41 hK41 => ?_
                refine cF hF (by kernel_rfl) (by kernel_rfl) ?_
                refine wp_exit ?_
                refine hK5 _ _ ?_
                refine wp_seq_k fun K42 hK42 => ?_
                refine wp_region_lit ?_
                refine sB 1 [(2, .bool true)] hF (by kernel_rfl) fun a hF => ?_
                refine wpList_nil ?_
                refine hK42 _ _ ?_
                refine wp_ret ?_
                refine hR0 _ _ ?_
                refine ret_of hF hM (.tmp rfl (.nil)) ?_
                exact ⟨rfl, hM.bel⟩
            · skip
              refine wp_region_lit ?_
              refine sB 3 [(25, .int .i64 (k_lcf : Int)), (26, .slice AA4 lcf.length cc4), (27, .int .i64 (lcf.length : Int))] hF (by kernel_rfl) fun a hF => ?_
              refine wl (eP 28 (v0 := .bool (decide ((k_lcf : Int) < (lcf.length : Int)))) (v := .bool false) hF (by kernel_rfl) (fun _ => by kernel_rfl) (bF hz13) fun a hF => ?_)
              refine sB 4 [(29, .bool false), (30, undef), (31, undef), (32, .bool false)] hF (by kernel_rfl) fun a hF => ?_
              refine wpList_nil ?_
              refine hK33 _ _ ?_
              refine cF hF (by kernel_rfl) (by kernel_rfl) ?_
              refine wp_exit ?_
              refine hK29 _ _ ?_
              refine wp_seq_k fun K43 hK43 => ?_
              by_cases hz17 : bd_lcf < 0
              · skip
                have hck : ckE dbb dbr lcf = 0 := ckE_zero hdb tr_lcf
                have hfi := hBd.done (by omega)
                have hfb : fiB dbb dbr lcf bd_lcf = true := decide_eq_true ⟨by rw [fiV_yes hck, hfi], hck⟩
                have hcf : cfB dbb dbr lcf = true := by rw [cfB_yes hck, hfi]; exact decide_eq_true (by omega)
                refine wp_region_lit ?_
                refine wl (eL 66 4 0 (v := .agg #[.int .i64 dbb, .int .i64 dbr]) hF hM (by kernel_rfl) rfl rfl (by kernel_rfl) (by kernel_rfl) fun a w hF hM => ?_)
                refine sB 2 [(67, .slice AA4 lcf.length cc4), (68, .int .i64 bd_lcf)] hF (by kernel_rfl) fun a hF => ?_
                refine wl (eM 69 (v := .bool true) hF hM (by kernel_rfl) (Yld.to (yld_call (f := 29) (args := #[.agg #[.int .i64 dbb, .int .i64 dbr], .slice AA4 lcf.length cc4, .int .i64 bd_lcf]) hF (by kernel_rfl) (fun _ => by kernel_rfl) (fun w hM => first3_w dbb dbr AA4 lcf _ bd_lcf w (ro_of_own (hM.ok 6 _ rfl)))) (congrArg Value.bool hfb)) fun a w hF hM => ?_)
                refine sB 2 [(70, .bool false), (71, .bool false)] hF (by kernel_rfl) fun a hF => ?_
                refine wl (eL 72 4 0 (v := .agg #[.int .i64 dbb, .int .i64 dbr]) hF hM (by kernel_rfl) rfl rfl (by kernel_rfl) (by kernel_rfl) fun a w hF hM => ?_)
                refine sB 1 [(73, .slice AA4 lcf.length cc4)] hF (by kernel_rfl) fun a hF => ?_
                refine wl (eM 74 (v := .bool true) hF hM (by kernel_rfl) (Yld.to (yld_call (f := 30) (args := #[.agg #[.int .i64 dbb, .int .i64 dbr], .slice AA4 lcf.length cc4]) hF (by kernel_rfl) (fun _ => by kernel_rfl) (fun w hM => fits3_w dbb dbr AA4 lcf _ w (ro_of_own (hM.ok 6 _ rfl)))) (congrArg Value.bool hcf)) fun a w hF hM => ?_)
                refine sB 1 [(75, .int .i64 bd_lcf)] hF (by kernel_rfl) fun a hF => ?_
                refine wl (eP 76 (v0 := .bool (decide (bd_lcf < 0))) (v := .bool true) hF (by kernel_rfl) (fun _ => by kernel_rfl) (bT hz17) fun a hF => ?_)
                refine sB 2 [(77, .bool false), (78, .bool false)] hF (by kernel_rfl) fun a hF => ?_
                refine wpList_nil ?_
                refine hK43 _ _ ?_
                refine cF hF (by kernel_rfl) (by kernel_rfl) ?_
                refine wp_skip ?_
                refine hK26 _ _ ?_
                refine wp_region_lit ?_
                refine wl (eP 79 (v0 := .int .i64 (IntKind.i64.wrap (1 + 1))) (v := .int .i64 2) hF (by kernel_rfl) (fun _ => by kernel_rfl) (vi (by decide)) fun a hF => ?_)
                refine sB 1 [(19, .int .i64 2)] hF (by kernel_rfl) fun a hF => ?_
                refine wpList_nil ?_
                refine hK23 _ _ ?_
                refine rounds_k fun K44 hK44 => ?_
                refine wp_seq_k fun K45 hK45 => ?_
                refine wp_region_lit ?_
                refine wl (eP 20 (v0 := .bool (decide (2 < 2))) (v := .bool false) hF (by kernel_rfl) (fun _ => by kernel_rfl) (bF (by omega)) fun a hF => ?_)
                refine wpList_nil ?_
                refine hK45 _ _ ?_
                refine wp_seq_k fun K46 hK46 => ?_
                refine cF hF (by kernel_rfl) (by kernel_rfl) ?_
                refine wp_exit ?_
                refine hK5 _ _ ?_
                refine wp_seq_k fun K47 hK47 => ?_
                refine wp_region_lit ?_
                refine sB 1 [(2, .bool true)] hF (by kernel_rfl) fun a hF => ?_
                refine wpList_nil ?_
                refine hK47 _ _ ?_
                refine wp_ret ?_
                refine hR0 _ _ ?_
                refine ret_of hF hM (.tmp rfl (.nil)) ?_
                exact ⟨rfl, hM.bel⟩
              · skip
                have hck : ckE dbb dbr lcf = 0 := ckE_zero hdb tr_lcf
                have hfi := hBd.done (by omega)
                have hfb : fiB dbb dbr lcf bd_lcf = true := decide_eq_true ⟨by rw [fiV_yes hck, hfi], hck⟩
                have hcf : cfB dbb dbr lcf = false := by rw [cfB_yes hck, hfi]; exact decide_eq_false (by omega)
                refine wp_region_lit ?_
                refine wl (eL 66 4 0 (v := .agg #[.int .i64 dbb, .int .i64 dbr]) hF hM (by kernel_rfl) rfl rfl (by kernel_rfl) (by kernel_rfl) fun a w hF hM => ?_)
                refine sB 2 [(67, .slice AA4 lcf.length cc4), (68, .int .i64 bd_lcf)] hF (by kernel_rfl) fun a hF => ?_
                refine wl (eM 69 (v := .bool true) hF hM (by kernel_rfl) (Yld.to (yld_call (f := 29) (args := #[.agg #[.int .i64 dbb, .int .i64 dbr], .slice AA4 lcf.length cc4, .int .i64 bd_lcf]) hF (by kernel_rfl) (fun _ => by kernel_rfl) (fun w hM => first3_w dbb dbr AA4 lcf _ bd_lcf w (ro_of_own (hM.ok 6 _ rfl)))) (congrArg Value.bool hfb)) fun a w hF hM => ?_)
                refine sB 2 [(70, .bool false), (71, .bool false)] hF (by kernel_rfl) fun a hF => ?_
                refine wl (eL 72 4 0 (v := .agg #[.int .i64 dbb, .int .i64 dbr]) hF hM (by kernel_rfl) rfl rfl (by kernel_rfl) (by kernel_rfl) fun a w hF hM => ?_)
                refine sB 1 [(73, .slice AA4 lcf.length cc4)] hF (by kernel_rfl) fun a hF => ?_
                refine wl (eM 74 (v := .bool false) hF hM (by kernel_rfl) (Yld.to (yld_call (f := 30) (args := #[.agg #[.int .i64 dbb, .int .i64 dbr], .slice AA4 lcf.length cc4]) hF (by kernel_rfl) (fun _ => by kernel_rfl) (fun w hM => fits3_w dbb dbr AA4 lcf _ w (ro_of_own (hM.ok 6 _ rfl)))) (congrArg Value.bool hcf)) fun a w hF hM => ?_)
                refine sB 1 [(75, .int .i64 bd_lcf)] hF (by kernel_rfl) fun a hF => ?_
                refine wl (eP 76 (v0 := .bool (decide (bd_lcf < 0))) (v := .bool false) hF (by kernel_rfl) (fun _ => by kernel_rfl) (bF hz17) fun a hF => ?_)
                refine sB 2 [(77, .bool false), (78, .bool false)] hF (by kernel_rfl) fun a hF => ?_
                refine wpList_nil ?_
                refine hK43 _ _ ?_
                refine cF hF (by kernel_rfl) (by kernel_rfl) ?_
                refine wp_skip ?_
                refine hK26 _ _ ?_
                refine wp_region_lit ?_
                refine wl (eP 79 (v0 := .int .i64 (IntKind.i64.wrap (1 + 1))) (v := .int .i64 2) hF (by kernel_rfl) (fun _ => by kernel_rfl) (vi (by decide)) fun a hF => ?_)
                refine sB 1 [(19, .int .i64 2)] hF (by kernel_rfl) fun a hF => ?_
                refine wpList_nil ?_
                refine hK23 _ _ ?_
                refine rounds_k fun K48 hK48 => ?_
                refine wp_seq_k fun K49 hK49 => ?_
                refine wp_region_lit ?_
                refine wl (eP 20 (v0 := .bool (decide (2 < 2))) (v := .bool false) hF (by kernel_rfl) (fun _ => by kernel_rfl) (bF (by omega)) fun a hF => ?_)
                refine wpList_nil ?_
                refine hK49 _ _ ?_
                refine wp_seq_k fun K50 hK50 => ?_
                refine cF hF (by kernel_rfl) (by kernel_rfl) ?_
                refine wp_exit ?_
                refine hK5 _ _ ?_
                refine wp_seq_k fun K51 hK51 => ?_
                refine wp_region_lit ?_
                refine sB 1 [(2, .bool true)] hF (by kernel_rfl) fun a hF => ?_
                refine wpList_nil ?_
                refine hK51 _ _ ?_
                refine wp_ret ?_
                refine hR0 _ _ ?_
                refine ret_of hF hM (.tmp rfl (.nil)) ?_
                exact ⟨rfl, hM.bel⟩
      · skip
        refine wp_region_lit ?_
        refine sB 3 [(25, .int .i64 (k_ltr : Int)), (26, .slice AA3 ltr.length cc3), (27, .int .i64 (ltr.length : Int))] hF (by kernel_rfl) fun a hF => ?_
        refine wl (eP 28 (v0 := .bool (decide ((k_ltr : Int) < (ltr.length : Int)))) (v := .bool false) hF (by kernel_rfl) (fun _ => by kernel_rfl) (bF hz5) fun a hF => ?_)
        refine sB 4 [(29, .bool false), (30, undef), (31, undef), (32, .bool false)] hF (by kernel_rfl) fun a hF => ?_
        refine wpList_nil ?_
        refine hK17 _ _ ?_
        refine cF hF (by kernel_rfl) (by kernel_rfl) ?_
        refine wp_exit ?_
        refine hK13 _ _ ?_
        refine wp_seq_k fun K52 hK52 => ?_
        by_cases hz18 : bd_ltr < 0
        · skip
          have hck : ckE dbb dbr ltr = 0 := ckE_zero hdb tr_ltr
          have hfi := hBd.done (by omega)
          have hfb : fiB dbb dbr ltr bd_ltr = true := decide_eq_true ⟨by rw [fiV_yes hck, hfi], hck⟩
          have hcf : cfB dbb dbr ltr = true := by rw [cfB_yes hck, hfi]; exact decide_eq_true (by omega)
          refine wp_region_lit ?_
          refine wl (eL 66 4 0 (v := .agg #[.int .i64 dbb, .int .i64 dbr]) hF hM (by kernel_rfl) rfl rfl (by kernel_rfl) (by kernel_rfl) fun a w hF hM => ?_)
          refine sB 2 [(67, .slice AA3 ltr.length cc3), (68, .int .i64 bd_ltr)] hF (by kernel_rfl) fun a hF => ?_
          refine wl (eM 69 (v := .bool true) hF hM (by kernel_rfl) (Yld.to (yld_call (f := 29) (args := #[.agg #[.int .i64 dbb, .int .i64 dbr], .slice AA3 ltr.length cc3, .int .i64 bd_ltr]) hF (by kernel_rfl) (fun _ => by kernel_rfl) (fun w hM => first3_w dbb dbr AA3 ltr _ bd_ltr w (ro_of_own (hM.ok 5 _ rfl)))) (congrArg Value.bool hfb)) fun a w hF hM => ?_)
          refine sB 2 [(70, .bool false), (71, .bool false)] hF (by kernel_rfl) fun a hF => ?_
          refine wl (eL 72 4 0 (v := .agg #[.int .i64 dbb, .int .i64 dbr]) hF hM (by kernel_rfl) rfl rfl (by kernel_rfl) (by kernel_rfl) fun a w hF hM => ?_)
          refine sB 1 [(73, .slice AA3 ltr.length cc3)] hF (by kernel_rfl) fun a hF => ?_
          refine wl (eM 74 (v := .bool true) hF hM (by kernel_rfl) (Yld.to (yld_call (f := 30) (args := #[.agg #[.int .i64 dbb, .int .i64 dbr], .slice AA3 ltr.length cc3]) hF (by kernel_rfl) (fun _ => by kernel_rfl) (fun w hM => fits3_w dbb dbr AA3 ltr _ w (ro_of_own (hM.ok 5 _ rfl)))) (congrArg Value.bool hcf)) fun a w hF hM => ?_)
          refine sB 1 [(75, .int .i64 bd_ltr)] hF (by kernel_rfl) fun a hF => ?_
          refine wl (eP 76 (v0 := .bool (decide (bd_ltr < 0))) (v := .bool true) hF (by kernel_rfl) (fun _ => by kernel_rfl) (bT hz18) fun a hF => ?_)
          refine sB 2 [(77, .bool false), (78, .bool false)] hF (by kernel_rfl) fun a hF => ?_
          refine wpList_nil ?_
          refine hK52 _ _ ?_
          refine cF hF (by kernel_rfl) (by kernel_rfl) ?_
          refine wp_skip ?_
          refine hK10 _ _ ?_
          refine wp_region_lit ?_
          refine wl (eP 79 (v0 := .int .i64 (IntKind.i64.wrap (0 + 1))) (v := .int .i64 1) hF (by kernel_rfl) (fun _ => by kernel_rfl) (vi (by decide)) fun a hF => ?_)
          refine sB 1 [(19, .int .i64 1)] hF (by kernel_rfl) fun a hF => ?_
          refine wpList_nil ?_
          refine hK7 _ _ ?_
          refine rounds_k fun K53 hK53 => ?_
          refine wp_seq_k fun K54 hK54 => ?_
          refine wp_region_lit ?_
          refine wl (eP 20 (v0 := .bool (decide (1 < 2))) (v := .bool true) hF (by kernel_rfl) (fun _ => by kernel_rfl) (bT (by omega)) fun a hF => ?_)
          refine wpList_nil ?_
          refine hK54 _ _ ?_
          refine wp_seq_k fun K55 hK55 => ?_
          refine cT hF (by kernel_rfl) (by kernel_rfl) ?_
          refine wp_skip ?_
          refine hK55 _ _ ?_
          refine wp_seq_k fun K56 hK56 => ?_
          refine wp_block ?_
          refine wp_seq_k fun K57 hK57 => ?_
          refine wp_region_lit ?_
          refine sB 2 [(21, .slice AA4 lcf.length cc4), (5, .slice AA4 lcf.length cc4)] hF (by kernel_rfl) fun a hF => ?_
          refine wpList_nil ?_
          refine hK57 _ _ ?_
          refine wp_seq_k fun K58 hK58 => ?_
          refine wp_region_lit ?_
          refine sB 1 [(22, .pointer (some ⟨bb2, 0, none⟩))] hF (by kernel_rfl) fun a hF => ?_
          refine wl (eL 23 4 0 (v := .int .i64 dbb) hF hM (by kernel_rfl) rfl rfl (by kernel_rfl) (by kernel_rfl) fun a w hF hM => ?_)
          refine wl (eP 24 (v0 := .int .i64 (IntKind.i64.wrap (dbb * 1048576))) (v := .int .i64 (dbb * 1048576)) hF (by kernel_rfl) (fun _ => by kernel_rfl) (wi (by omega)) fun a hF => ?_)
          refine sB 3 [(6, .int .i64 (dbb * 1048576)), (7, .int .i64 0), (8, .int .i64 (-1))] hF (by kernel_rfl) fun a hF => ?_
          refine wpList_nil ?_
          refine hK58 _ _ ?_
          refine wp_seq_k fun K59 hK59 => ?_
          refine wp_seq_k fun K60 hK60 => ?_
          have hl0 : lvN dbb dbr lcf 0 = dbb * 1048576 := rfl
          have ha0 : laN lcf 0 = 0 := rfl
          refine wp_region_lit ?_
          refine sB 1 [(9, .int .i64 0)] hF (by kernel_rfl) fun a hF => ?_
          refine wpList_nil ?_
          refine hK60 _ _ ?_
          refine wp_block ?_
          refine wp_loop_k (G := Nat × Int) (fun gg a w => Fr 80 [(6, some (.int .i64 (lvN dbb dbr lcf gg.1))), (7, some (.int .i64 (laN lcf gg.1))), (8, some (.int .i64 gg.2)), (9, some (.int .i64 (gg.1 : Int))), (2, some (.bool false)), (3, some (.pointer (some ⟨bb2, 0, none⟩))), (5, some (.slice AA4 lcf.length cc4)), (18, some (.agg #[.slice AA3 ltr.length cc3, .slice AA4 lcf.length cc4])), (19, some (.int .i64 1))] a ∧ Mem w0.heap.size w0 [(1, some (.ro Ga (gaps.map (Value.int .u16)))), (2, some (.ro Sa (sizes.map (Value.int .u16)))), (4, some (.row bb2 23 #[.int .i64 dbb, .int .i64 dbr])), (5, some (.own (.slice AA3 ltr.length cc3) 30 2 ltr.length (flat2 ltr))), (6, some (.own (.slice AA4 lcf.length cc4) 30 2 lcf.length (flat2 lcf)))] w ∧ ((gg.1 : Int) ≤ (lcf.length : Int)) ∧ (BadAt dbb dbr lcf gg.1 gg.2) ∧ (-1 ≤ gg.2) ∧ (gg.2 ≤ (gg.1 : Int))) (fun gg => lcf.length - gg.1) (0, -1) ?_ ?_
          · refine ⟨((((((((((Fr.nil hF).c hF (i := 19) rfl rfl).c hF (i := 18) rfl rfl).c hF (i := 5) rfl rfl).c hF (i := 3) rfl rfl).c hF (i := 2) rfl rfl).c hF (i := 9) rfl (vi (show (0 : Int) = (0 : Int) from by omega))).c hF (i := 8) rfl rfl).c hF (i := 7) rfl (vi (show (0 : Int) = laN lcf 0 from by omega))).c hF (i := 6) rfl (vi (show (dbb * 1048576 : Int) = lvN dbb dbr lcf 0 from by omega))), (hM.sub (((((Sub.nil.c (k := 6) rfl rfl).c (k := 5) rfl rfl).c (k := 4) rfl rfl).c (k := 2) rfl rfl).c (k := 1) rfl rfl)), (show (0 : Int) ≤ (lcf.length : Int) from by omega), (show BadAt dbb dbr lcf 0 (-1) from by exact BadAt.zero _ _ _), (show -1 ≤ (-1) from by omega), (show (-1) ≤ (0 : Int) from by omega)⟩
          · intro gg a w hI
            intro K61 hK61
            obtain ⟨k_lcf, bd_lcf⟩ := gg
            try dsimp only at hI hK61
            obtain ⟨hF, hM, hz19, hz20, hz21, hz22⟩ := hI
            have hBd : BadAt dbb dbr lcf k_lcf bd_lcf := by assumption
            refine wp_seq_k fun K62 hK62 => ?_
            refine wp_seq_k fun K63 hK63 => ?_
            by_cases hz23 : (k_lcf : Int) < (lcf.length : Int)
            · skip
              refine wp_region_lit ?_
              refine sB 3 [(25, .int .i64 (k_lcf : Int)), (26, .slice AA4 lcf.length cc4), (27, .int .i64 (lcf.length : Int))] hF (by kernel_rfl) fun a hF => ?_
              refine wl (eP 28 (v0 := .bool (decide ((k_lcf : Int) < (lcf.length : Int)))) (v := .bool true) hF (by kernel_rfl) (fun _ => by kernel_rfl) (bT hz23) fun a hF => ?_)
              refine sB 4 [(29, .bool true), (30, .int .i64 bd_lcf), (31, .bool (decide (bd_lcf < 0))), (32, .bool (decide (bd_lcf < 0)))] hF (by kernel_rfl) fun a hF => ?_
              refine wpList_nil ?_
              refine hK63 _ _ ?_
              by_cases hz24 : bd_lcf < 0
              · skip
                replace hF := hF.c hF (i := 31) (v := .bool true) rfl (bT hz24)
                replace hF := hF.c hF (i := 32) (v := .bool true) rfl (bT hz24)
                refine cT hF (by kernel_rfl) (by kernel_rfl) ?_
                refine wp_skip ?_
                refine hK62 _ _ ?_
                refine wp_seq_k fun K64 hK64 => ?_
                refine wp_block ?_
                refine wp_seq_k fun K65 hK65 => ?_
                have hta := tr_all tr_lcf k_lcf (by omega)
                have hlb := lv_bd (b := dbb) (r := dbr) (by omega) tr_lcf k_lcf (by omega)
                refine rQ hM (by kernel_rfl) (by kernel_rfl) ?_
                refine eQ 35 (v0 := .pointer (some ⟨bb2, 0, none⟩)) (v := .pointer (some ⟨bb2, 0, none⟩)) hF (by kernel_rfl) (fun _ => by kernel_rfl) rfl fun a hF => ?_
                refine eQL 36 4 0 (v := .int .i64 dbb) hF (by kernel_rfl) rfl rfl (by kernel_rfl) (by kernel_rfl) fun a hF => ?_
                refine eQ 37 (v0 := .int .i64 (IntKind.i64.wrap (dbb * 1048576))) (v := .int .i64 (dbb * 1048576)) hF (by kernel_rfl) (fun _ => by kernel_rfl) (wi (by omega)) fun a hF => ?_
                refine eQ 38 (v0 := .int .i64 (lvN dbb dbr lcf k_lcf)) (v := .int .i64 (lvN dbb dbr lcf k_lcf)) hF (by kernel_rfl) (fun _ => by kernel_rfl) rfl fun a hF => ?_
                refine eQ 39 (v0 := .pointer (some ⟨bb2, 1, none⟩)) (v := .pointer (some ⟨bb2, 1, none⟩)) hF (by kernel_rfl) (fun _ => by kernel_rfl) rfl fun a hF => ?_
                refine eQL 40 4 1 (v := .int .i64 dbr) hF (by kernel_rfl) rfl rfl (by kernel_rfl) (by kernel_rfl) fun a hF => ?_
                refine eQ 41 (v0 := .slice AA4 lcf.length cc4) (v := .slice AA4 lcf.length cc4) hF (by kernel_rfl) (fun _ => by kernel_rfl) rfl fun a hF => ?_
                refine eQ 42 (v0 := .int .i64 (k_lcf : Int)) (v := .int .i64 (k_lcf : Int)) hF (by kernel_rfl) (fun _ => by kernel_rfl) rfl fun a hF => ?_
                refine eQ2 43 (v := .pointer (some (ea AA4 (k_lcf * 2)))) hF (by kernel_rfl) (yld_ix (kd := .i64) (e := 30) (len := lcf.length) (cap := cc4) (i := (k_lcf : Int)) (size := 2) (A := AA4) hF rfl (by kernel_rfl) (by kernel_rfl) (by kernel_rfl) (by kernel_rfl) (by kernel_rfl) (roO 6 rfl) (by omega) (by omega) (by rw [flat2_length]; omega)) fun a hF => ?_
                refine eQ 44 (v0 := .pointer (some (ea AA4 (k_lcf * 2)))) (v := .pointer (some (ea AA4 (k_lcf * 2)))) hF (by kernel_rfl) (fun _ => by kernel_rfl) rfl fun a hF => ?_
                refine eQ2 45 (v := .int .i64 (pr lcf k_lcf).1) hF (by kernel_rfl) (yld_ro1 (A := AA4) (j := k_lcf * 2) hF rfl (by kernel_rfl) (by kernel_rfl) (roO 6 rfl) (by kernel_rfl) (pr_fst (k := k_lcf) (by omega) (by omega))) fun a hF => ?_
                refine eQ 46 (v0 := .int .i64 (laN lcf k_lcf)) (v := .int .i64 (laN lcf k_lcf)) hF (by kernel_rfl) (fun _ => by kernel_rfl) rfl fun a hF => ?_
                refine eQ 47 (v0 := .int .i64 (IntKind.i64.wrap ((pr lcf k_lcf).1 - laN lcf k_lcf))) (v := .int .i64 ((pr lcf k_lcf).1 - laN lcf k_lcf)) hF (by kernel_rfl) (fun _ => by kernel_rfl) (wi (by omega)) fun a hF => ?_
                have hz25 : 0 ≤ dbr * ((pr lcf k_lcf).1 - laN lcf k_lcf) ∧ dbr * ((pr lcf k_lcf).1 - laN lcf k_lcf) ≤ 2305843009213693952 := mul_bd (1) (2097152) (0) (1099511627776) (by omega) (by omega) (by omega) (by omega) (by decide)
                refine eQ 48 (v0 := .int .i64 (IntKind.i64.wrap (dbr * ((pr lcf k_lcf).1 - laN lcf k_lcf)))) (v := .int .i64 (dbr * ((pr lcf k_lcf).1 - laN lcf k_lcf))) hF (by kernel_rfl) (fun _ => by kernel_rfl) (wi (by omega)) fun a hF => ?_
                refine eQ 49 (v0 := .int .i64 (IntKind.i64.wrap (lvN dbb dbr lcf k_lcf + dbr * ((pr lcf k_lcf).1 - laN lcf k_lcf)))) (v := .int .i64 (lvN dbb dbr lcf k_lcf + dbr * ((pr lcf k_lcf).1 - laN lcf k_lcf))) hF (by kernel_rfl) (fun _ => by kernel_rfl) (wi (by omega)) fun a hF => ?_
                refine eQ 50 (v0 := .int .i64 (if lvN dbb dbr lcf k_lcf + dbr * ((pr lcf k_lcf).1 - laN lcf k_lcf) < dbb * 1048576 then lvN dbb dbr lcf k_lcf + dbr * ((pr lcf k_lcf).1 - laN lcf k_lcf) else dbb * 1048576)) (v := .int .i64 (min (dbb * 1048576) (lvN dbb dbr lcf k_lcf + dbr * ((pr lcf k_lcf).1 - laN lcf k_lcf)))) hF (by kernel_rfl) (fun _ => by kernel_rfl) (vi (min_if _ _)) fun a hF => ?_
                refine eQ 51 (v0 := .slice AA4 lcf.length cc4) (v := .slice AA4 lcf.length cc4) hF (by kernel_rfl) (fun _ => by kernel_rfl) rfl fun a hF => ?_
                refine eQ 52 (v0 := .int .i64 (k_lcf : Int)) (v := .int .i64 (k_lcf : Int)) hF (by kernel_rfl) (fun _ => by kernel_rfl) rfl fun a hF => ?_
                refine eQ2 53 (v := .pointer (some (ea AA4 (k_lcf * 2)))) hF (by kernel_rfl) (yld_ix (kd := .i64) (e := 30) (len := lcf.length) (cap := cc4) (i := (k_lcf : Int)) (size := 2) (A := AA4) hF rfl (by kernel_rfl) (by kernel_rfl) (by kernel_rfl) (by kernel_rfl) (by kernel_rfl) (roO 6 rfl) (by omega) (by omega) (by rw [flat2_length]; omega)) fun a hF => ?_
                refine eQ 54 (v0 := .pointer (some (ea AA4 (k_lcf * 2 + 1)))) (v := .pointer (some (ea AA4 (k_lcf * 2 + 1)))) hF (by kernel_rfl) (fun _ => by kernel_rfl) rfl fun a hF => ?_
                refine eQ2 55 (v := .int .i64 (pr lcf k_lcf).2) hF (by kernel_rfl) (yld_ro1 (A := AA4) (j := k_lcf * 2 + 1) hF rfl (by kernel_rfl) (by kernel_rfl) (roO 6 rfl) (by kernel_rfl) (pr_snd (k := k_lcf) (by omega) (by omega))) fun a hF => ?_
                refine eQ 56 (v0 := .int .i64 (IntKind.i64.wrap ((pr lcf k_lcf).2 * 1048576))) (v := .int .i64 ((pr lcf k_lcf).2 * 1048576)) hF (by kernel_rfl) (fun _ => by kernel_rfl) (wi (by omega)) fun a hF => ?_
                refine eQ 57 (v0 := .int .i64 (IntKind.i64.wrap (min (dbb * 1048576) (lvN dbb dbr lcf k_lcf + dbr * ((pr lcf k_lcf).1 - laN lcf k_lcf)) - (pr lcf k_lcf).2 * 1048576))) (v := .int .i64 (min (dbb * 1048576) (lvN dbb dbr lcf k_lcf + dbr * ((pr lcf k_lcf).1 - laN lcf k_lcf)) - (pr lcf k_lcf).2 * 1048576)) hF (by kernel_rfl) (fun _ => by kernel_rfl) (wi (by omega)) fun a hF => ?_
                refine eQ 6 (v0 := .int .i64 (min (dbb * 1048576) (lvN dbb dbr lcf k_lcf + dbr * ((pr lcf k_lcf).1 - laN lcf k_lcf)) - (pr lcf k_lcf).2 * 1048576)) (v := .int .i64 (min (dbb * 1048576) (lvN dbb dbr lcf k_lcf + dbr * ((pr lcf k_lcf).1 - laN lcf k_lcf)) - (pr lcf k_lcf).2 * 1048576)) hF (by kernel_rfl) (fun _ => by kernel_rfl) rfl fun a hF => ?_
                refine wpQuiet_nil ?_
                intro w hM
                refine hK65 _ _ ?_
                refine wp_seq_k fun K66 hK66 => ?_
                refine wp_region_lit ?_
                refine sB 2 [(58, .slice AA4 lcf.length cc4), (59, .int .i64 (k_lcf : Int))] hF (by kernel_rfl) fun a hF => ?_
                refine wl (eM 60 (v := .pointer (some (ea AA4 (k_lcf * 2)))) hF hM (by kernel_rfl) (yld_ix (kd := .i64) (e := 30) (len := lcf.length) (cap := cc4) (i := (k_lcf : Int)) (size := 2) (A := AA4) hF rfl (by kernel_rfl) (by kernel_rfl) (by kernel_rfl) (by kernel_rfl) (by kernel_rfl) (roO 6 rfl) (by omega) (by omega) (by rw [flat2_length]; omega)) fun a w hF hM => ?_)
                refine sB 1 [(61, .pointer (some (ea AA4 (k_lcf * 2))))] hF (by kernel_rfl) fun a hF => ?_
                refine wl (eM 62 (v := .int .i64 (pr lcf k_lcf).1) hF hM (by kernel_rfl) (yld_ro1 (A := AA4) (j := k_lcf * 2) hF rfl (by kernel_rfl) (by kernel_rfl) (roO 6 rfl) (by kernel_rfl) (pr_fst (k := k_lcf) (by omega) (by omega))) fun a w hF hM => ?_)
                refine sB 1 [(7, .int .i64 (pr lcf k_lcf).1)] hF (by kernel_rfl) fun a hF => ?_
                refine wpList_nil ?_
                refine hK66 _ _ ?_
                refine wp_seq_k fun K67 hK67 => ?_
                refine wp_region_lit ?_
                refine sB 2 [(63, .int .i64 (min (dbb * 1048576) (lvN dbb dbr lcf k_lcf + dbr * ((pr lcf k_lcf).1 - laN lcf k_lcf)) - (pr lcf k_lcf).2 * 1048576)), (64, .bool (decide (min (dbb * 1048576) (lvN dbb dbr lcf k_lcf + dbr * ((pr lcf k_lcf).1 - laN lcf k_lcf)) - (pr lcf k_lcf).2 * 1048576 < 0)))] hF (by kernel_rfl) fun a hF => ?_
                refine wpList_nil ?_
                refine hK67 _ _ ?_
                by_cases hz26 : min (dbb * 1048576) (lvN dbb dbr lcf k_lcf + dbr * ((pr lcf k_lcf).1 - laN lcf k_lcf)) - (pr lcf k_lcf).2 * 1048576 < 0
                · skip
                  replace hF := hF.c hF (i := 64) (v := .bool true) rfl (bT hz26)
                  refine cT hF (by kernel_rfl) (by kernel_rfl) ?_
                  refine wp_region_lit ?_
                  refine sB 2 [(65, .int .i64 (k_lcf : Int)), (8, .int .i64 (k_lcf : Int))] hF (by kernel_rfl) fun a hF => ?_
                  refine wpList_nil ?_
                  refine hK64 _ _ ?_
                  refine wp_region_lit ?_
                  refine sB 1 [(33, .int .i64 (k_lcf : Int))] hF (by kernel_rfl) fun a hF => ?_
                  refine wl (eP 34 (v0 := .int .i64 (IntKind.i64.wrap ((k_lcf : Int) + 1))) (v := .int .i64 ((k_lcf : Int) + 1)) hF (by kernel_rfl) (fun _ => by kernel_rfl) (wi (by omega)) fun a hF => ?_)
                  refine sB 1 [(9, .int .i64 ((k_lcf : Int) + 1))] hF (by kernel_rfl) fun a hF => ?_
                  refine wpList_nil ?_
                  have hlv : lvN dbb dbr lcf (k_lcf + 1) = min (dbb * 1048576) (lvN dbb dbr lcf k_lcf + dbr * ((pr lcf k_lcf).1 - laN lcf k_lcf)) - (pr lcf k_lcf).2 * 1048576 := rfl
                  have hla : laN lcf (k_lcf + 1) = (pr lcf k_lcf).1 := rfl
                  refine hK61 _ _ ⟨(k_lcf + 1, (k_lcf : Int)), ⟨((((((((((Fr.nil hF).c hF (i := 19) rfl rfl).c hF (i := 18) rfl rfl).c hF (i := 5) rfl rfl).c hF (i := 3) rfl rfl).c hF (i := 2) rfl rfl).c hF (i := 9) rfl (vi (show ((k_lcf : Int) + 1 : Int) = ((k_lcf + 1) : Int) from by omega))).c hF (i := 8) rfl rfl).c hF (i := 7) rfl (vi (show ((pr lcf k_lcf).1 : Int) = laN lcf (k_lcf + 1) from by omega))).c hF (i := 6) rfl (vi (show (min (dbb * 1048576) (lvN dbb dbr lcf k_lcf + dbr * ((pr lcf k_lcf).1 - laN lcf k_lcf)) - (pr lcf k_lcf).2 * 1048576 : Int) = lvN dbb dbr lcf (k_lcf + 1) from by omega))), (hM.sub (((((Sub.nil.c (k := 6) rfl rfl).c (k := 5) rfl rfl).c (k := 4) rfl rfl).c (k := 2) rfl rfl).c (k := 1) rfl rfl)), (show ((k_lcf + 1) : Int) ≤ (lcf.length : Int) from by omega), (show BadAt dbb dbr lcf (k_lcf + 1) (k_lcf : Int) from by exact hBd.bad (by omega) (by omega) (by omega)), (show -1 ≤ (k_lcf : Int) from by omega), (show (k_lcf : Int) ≤ ((k_lcf + 1) : Int) from by omega)⟩, (show lcf.length - (k_lcf + 1) < lcf.length - k_lcf from by omega)⟩
                · skip
                  replace hF := hF.c hF (i := 64) (v := .bool false) rfl (bF hz26)
                  refine cF hF (by kernel_rfl) (by kernel_rfl) ?_
                  refine wp_skip ?_
                  refine hK64 _ _ ?_
                  refine wp_region_lit ?_
                  refine sB 1 [(33, .int .i64 (k_lcf : Int))] hF (by kernel_rfl) fun a hF => ?_
                  refine wl (eP 34 (v0 := .int .i64 (IntKind.i64.wrap ((k_lcf : Int) + 1))) (v := .int .i64 ((k_lcf : Int) + 1)) hF (by kernel_rfl) (fun _ => by kernel_rfl) (wi (by omega)) fun a hF => ?_)
                  refine sB 1 [(9, .int .i64 ((k_lcf : Int) + 1))] hF (by kernel_rfl) fun a hF => ?_
                  refine wpList_nil ?_
                  have hlv : lvN dbb dbr lcf (k_lcf + 1) = min (dbb * 1048576) (lvN dbb dbr lcf k_lcf + dbr * ((pr lcf k_lcf).1 - laN lcf k_lcf)) - (pr lcf k_lcf).2 * 1048576 := rfl
                  have hla : laN lcf (k_lcf + 1) = (pr lcf k_lcf).1 := rfl
                  refine hK61 _ _ ⟨(k_lcf + 1, bd_lcf), ⟨((((((((((Fr.nil hF).c hF (i := 19) rfl rfl).c hF (i := 18) rfl rfl).c hF (i := 5) rfl rfl).c hF (i := 3) rfl rfl).c hF (i := 2) rfl rfl).c hF (i := 9) rfl (vi (show ((k_lcf : Int) + 1 : Int) = ((k_lcf + 1) : Int) from by omega))).c hF (i := 8) rfl rfl).c hF (i := 7) rfl (vi (show ((pr lcf k_lcf).1 : Int) = laN lcf (k_lcf + 1) from by omega))).c hF (i := 6) rfl (vi (show (min (dbb * 1048576) (lvN dbb dbr lcf k_lcf + dbr * ((pr lcf k_lcf).1 - laN lcf k_lcf)) - (pr lcf k_lcf).2 * 1048576 : Int) = lvN dbb dbr lcf (k_lcf + 1) from by omega))), (hM.sub (((((Sub.nil.c (k := 6) rfl rfl).c (k := 5) rfl rfl).c (k := 4) rfl rfl).c (k := 2) rfl rfl).c (k := 1) rfl rfl)), (show ((k_lcf + 1) : Int) ≤ (lcf.length : Int) from by omega), (show BadAt dbb dbr lcf (k_lcf + 1) bd_lcf from by exact hBd.good (by omega) (by omega)), (show -1 ≤ bd_lcf from by omega), (show bd_lcf ≤ ((k_lcf + 1) : Int) from by omega)⟩, (show lcf.length - (k_lcf + 1) < lcf.length - k_lcf from by omega)⟩
              · skip
                replace hF := hF.c hF (i := 31) (v := .bool false) rfl (bF hz24)
                replace hF := hF.c hF (i := 32) (v := .bool false) rfl (bF hz24)
                refine cF hF (by kernel_rfl) (by kernel_rfl) ?_
                refine wp_exit ?_
                refine hK59 _ _ ?_
                refine wp_seq_k fun K68 hK68 => ?_
                have hck : ckE dbb dbr lcf = 0 := ckE_zero hdb tr_lcf
                have hfi := hBd.done (by omega)
                have hfb : fiB dbb dbr lcf bd_lcf = true := decide_eq_true ⟨by rw [fiV_yes hck, hfi], hck⟩
                have hcf : cfB dbb dbr lcf = false := by rw [cfB_yes hck, hfi]; exact decide_eq_false (by omega)
                refine wp_region_lit ?_
                refine wl (eL 66 4 0 (v := .agg #[.int .i64 dbb, .int .i64 dbr]) hF hM (by kernel_rfl) rfl rfl (by kernel_rfl) (by kernel_rfl) fun a w hF hM => ?_)
                refine sB 2 [(67, .slice AA4 lcf.length cc4), (68, .int .i64 bd_lcf)] hF (by kernel_rfl) fun a hF => ?_
                refine wl (eM 69 (v := .bool true) hF hM (by kernel_rfl) (Yld.to (yld_call (f := 29) (args := #[.agg #[.int .i64 dbb, .int .i64 dbr], .slice AA4 lcf.length cc4, .int .i64 bd_lcf]) hF (by kernel_rfl) (fun _ => by kernel_rfl) (fun w hM => first3_w dbb dbr AA4 lcf _ bd_lcf w (ro_of_own (hM.ok 6 _ rfl)))) (congrArg Value.bool hfb)) fun a w hF hM => ?_)
                refine sB 2 [(70, .bool false), (71, .bool false)] hF (by kernel_rfl) fun a hF => ?_
                refine wl (eL 72 4 0 (v := .agg #[.int .i64 dbb, .int .i64 dbr]) hF hM (by kernel_rfl) rfl rfl (by kernel_rfl) (by kernel_rfl) fun a w hF hM => ?_)
                refine sB 1 [(73, .slice AA4 lcf.length cc4)] hF (by kernel_rfl) fun a hF => ?_
                refine wl (eM 74 (v := .bool false) hF hM (by kernel_rfl) (Yld.to (yld_call (f := 30) (args := #[.agg #[.int .i64 dbb, .int .i64 dbr], .slice AA4 lcf.length cc4]) hF (by kernel_rfl) (fun _ => by kernel_rfl) (fun w hM => fits3_w dbb dbr AA4 lcf _ w (ro_of_own (hM.ok 6 _ rfl)))) (congrArg Value.bool hcf)) fun a w hF hM => ?_)
                refine sB 1 [(75, .int .i64 bd_lcf)] hF (by kernel_rfl) fun a hF => ?_
                refine wl (eP 76 (v0 := .bool (decide (bd_lcf < 0))) (v := .bool false) hF (by kernel_rfl) (fun _ => by kernel_rfl) (bF hz24) fun a hF => ?_)
                refine sB 2 [(77, .bool false), (78, .bool false)] hF (by kernel_rfl) fun a hF => ?_
                refine wpList_nil ?_
                refine hK68 _ _ ?_
                refine cF hF (by kernel_rfl) (by kernel_rfl) ?_
                refine wp_skip ?_
                refine hK56 _ _ ?_
                refine wp_region_lit ?_
                refine wl (eP 79 (v0 := .int .i64 (IntKind.i64.wrap (1 + 1))) (v := .int .i64 2) hF (by kernel_rfl) (fun _ => by kernel_rfl) (vi (by decide)) fun a hF => ?_)
                refine sB 1 [(19, .int .i64 2)] hF (by kernel_rfl) fun a hF => ?_
                refine wpList_nil ?_
                refine hK53 _ _ ?_
                refine rounds_k fun K69 hK69 => ?_
                refine wp_seq_k fun K70 hK70 => ?_
                refine wp_region_lit ?_
                refine wl (eP 20 (v0 := .bool (decide (2 < 2))) (v := .bool false) hF (by kernel_rfl) (fun _ => by kernel_rfl) (bF (by omega)) fun a hF => ?_)
                refine wpList_nil ?_
                refine hK70 _ _ ?_
                refine wp_seq_k fun K71 hK71 => ?_
                refine cF hF (by kernel_rfl) (by kernel_rfl) ?_
                refine wp_exit ?_
                refine hK5 _ _ ?_
                refine wp_seq_k fun K72 hK72 => ?_
                refine wp_region_lit ?_
                refine sB 1 [(2, .bool true)] hF (by kernel_rfl) fun a hF => ?_
                refine wpList_nil ?_
                refine hK72 _ _ ?_
                refine wp_ret ?_
                refine hR0 _ _ ?_
                refine ret_of hF hM (.tmp rfl (.nil)) ?_
                exact ⟨rfl, hM.bel⟩
            · skip
              refine wp_region_lit ?_
              refine sB 3 [(25, .int .i64 (k_lcf : Int)), (26, .slice AA4 lcf.length cc4), (27, .int .i64 (lcf.length : Int))] hF (by kernel_rfl) fun a hF => ?_
              refine wl (eP 28 (v0 := .bool (decide ((k_lcf : Int) < (lcf.length : Int)))) (v := .bool false) hF (by kernel_rfl) (fun _ => by kernel_rfl) (bF hz23) fun a hF => ?_)
              refine sB 4 [(29, .bool false), (30, undef), (31, undef), (32, .bool false)] hF (by kernel_rfl) fun a hF => ?_
              refine wpList_nil ?_
              refine hK63 _ _ ?_
              refine cF hF (by kernel_rfl) (by kernel_rfl) ?_
              refine wp_exit ?_
              refine hK59 _ _ ?_
              refine wp_seq_k fun K73 hK73 => ?_
              by_cases hz27 : bd_lcf < 0
              · skip
                have hck : ckE dbb dbr lcf = 0 := ckE_zero hdb tr_lcf
                have hfi := hBd.done (by omega)
                have hfb : fiB dbb dbr lcf bd_lcf = true := decide_eq_true ⟨by rw [fiV_yes hck, hfi], hck⟩
                have hcf : cfB dbb dbr lcf = true := by rw [cfB_yes hck, hfi]; exact decide_eq_true (by omega)
                refine wp_region_lit ?_
                refine wl (eL 66 4 0 (v := .agg #[.int .i64 dbb, .int .i64 dbr]) hF hM (by kernel_rfl) rfl rfl (by kernel_rfl) (by kernel_rfl) fun a w hF hM => ?_)
                refine sB 2 [(67, .slice AA4 lcf.length cc4), (68, .int .i64 bd_lcf)] hF (by kernel_rfl) fun a hF => ?_
                refine wl (eM 69 (v := .bool true) hF hM (by kernel_rfl) (Yld.to (yld_call (f := 29) (args := #[.agg #[.int .i64 dbb, .int .i64 dbr], .slice AA4 lcf.length cc4, .int .i64 bd_lcf]) hF (by kernel_rfl) (fun _ => by kernel_rfl) (fun w hM => first3_w dbb dbr AA4 lcf _ bd_lcf w (ro_of_own (hM.ok 6 _ rfl)))) (congrArg Value.bool hfb)) fun a w hF hM => ?_)
                refine sB 2 [(70, .bool false), (71, .bool false)] hF (by kernel_rfl) fun a hF => ?_
                refine wl (eL 72 4 0 (v := .agg #[.int .i64 dbb, .int .i64 dbr]) hF hM (by kernel_rfl) rfl rfl (by kernel_rfl) (by kernel_rfl) fun a w hF hM => ?_)
                refine sB 1 [(73, .slice AA4 lcf.length cc4)] hF (by kernel_rfl) fun a hF => ?_
                refine wl (eM 74 (v := .bool true) hF hM (by kernel_rfl) (Yld.to (yld_call (f := 30) (args := #[.agg #[.int .i64 dbb, .int .i64 dbr], .slice AA4 lcf.length cc4]) hF (by kernel_rfl) (fun _ => by kernel_rfl) (fun w hM => fits3_w dbb dbr AA4 lcf _ w (ro_of_own (hM.ok 6 _ rfl)))) (congrArg Value.bool hcf)) fun a w hF hM => ?_)
                refine sB 1 [(75, .int .i64 bd_lcf)] hF (by kernel_rfl) fun a hF => ?_
                refine wl (eP 76 (v0 := .bool (decide (bd_lcf < 0))) (v := .bool true) hF (by kernel_rfl) (fun _ => by kernel_rfl) (bT hz27) fun a hF => ?_)
                refine sB 2 [(77, .bool false), (78, .bool false)] hF (by kernel_rfl) fun a hF => ?_
                refine wpList_nil ?_
                refine hK73 _ _ ?_
                refine cF hF (by kernel_rfl) (by kernel_rfl) ?_
                refine wp_skip ?_
                refine hK56 _ _ ?_
                refine wp_region_lit ?_
                refine wl (eP 79 (v0 := .int .i64 (IntKind.i64.wrap (1 + 1))) (v := .int .i64 2) hF (by kernel_rfl) (fun _ => by kernel_rfl) (vi (by decide)) fun a hF => ?_)
                refine sB 1 [(19, .int .i64 2)] hF (by kernel_rfl) fun a hF => ?_
                refine wpList_nil ?_
                refine hK53 _ _ ?_
                refine rounds_k fun K74 hK74 => ?_
                refine wp_seq_k fun K75 hK75 => ?_
                refine wp_region_lit ?_
                refine wl (eP 20 (v0 := .bool (decide (2 < 2))) (v := .bool false) hF (by kernel_rfl) (fun _ => by kernel_rfl) (bF (by omega)) fun a hF => ?_)
                refine wpList_nil ?_
                refine hK75 _ _ ?_
                refine wp_seq_k fun K76 hK76 => ?_
                refine cF hF (by kernel_rfl) (by kernel_rfl) ?_
                refine wp_exit ?_
                refine hK5 _ _ ?_
                refine wp_seq_k fun K77 hK77 => ?_
                refine wp_region_lit ?_
                refine sB 1 [(2, .bool true)] hF (by kernel_rfl) fun a hF => ?_
                refine wpList_nil ?_
                refine hK77 _ _ ?_
                refine wp_ret ?_
                refine hR0 _ _ ?_
                refine ret_of hF hM (.tmp rfl (.nil)) ?_
                exact ⟨rfl, hM.bel⟩
              · skip
                have hck : ckE dbb dbr lcf = 0 := ckE_zero hdb tr_lcf
                have hfi := hBd.done (by omega)
                have hfb : fiB dbb dbr lcf bd_lcf = true := decide_eq_true ⟨by rw [fiV_yes hck, hfi], hck⟩
                have hcf : cfB dbb dbr lcf = false := by rw [cfB_yes hck, hfi]; exact decide_eq_false (by omega)
                refine wp_region_lit ?_
                refine wl (eL 66 4 0 (v := .agg #[.int .i64 dbb, .int .i64 dbr]) hF hM (by kernel_rfl) rfl rfl (by kernel_rfl) (by kernel_rfl) fun a w hF hM => ?_)
                refine sB 2 [(67, .slice AA4 lcf.length cc4), (68, .int .i64 bd_lcf)] hF (by kernel_rfl) fun a hF => ?_
                refine wl (eM 69 (v := .bool true) hF hM (by kernel_rfl) (Yld.to (yld_call (f := 29) (args := #[.agg #[.int .i64 dbb, .int .i64 dbr], .slice AA4 lcf.length cc4, .int .i64 bd_lcf]) hF (by kernel_rfl) (fun _ => by kernel_rfl) (fun w hM => first3_w dbb dbr AA4 lcf _ bd_lcf w (ro_of_own (hM.ok 6 _ rfl)))) (congrArg Value.bool hfb)) fun a w hF hM => ?_)
                refine sB 2 [(70, .bool false), (71, .bool false)] hF (by kernel_rfl) fun a hF => ?_
                refine wl (eL 72 4 0 (v := .agg #[.int .i64 dbb, .int .i64 dbr]) hF hM (by kernel_rfl) rfl rfl (by kernel_rfl) (by kernel_rfl) fun a w hF hM => ?_)
                refine sB 1 [(73, .slice AA4 lcf.length cc4)] hF (by kernel_rfl) fun a hF => ?_
                refine wl (eM 74 (v := .bool false) hF hM (by kernel_rfl) (Yld.to (yld_call (f := 30) (args := #[.agg #[.int .i64 dbb, .int .i64 dbr], .slice AA4 lcf.length cc4]) hF (by kernel_rfl) (fun _ => by kernel_rfl) (fun w hM => fits3_w dbb dbr AA4 lcf _ w (ro_of_own (hM.ok 6 _ rfl)))) (congrArg Value.bool hcf)) fun a w hF hM => ?_)
                refine sB 1 [(75, .int .i64 bd_lcf)] hF (by kernel_rfl) fun a hF => ?_
                refine wl (eP 76 (v0 := .bool (decide (bd_lcf < 0))) (v := .bool false) hF (by kernel_rfl) (fun _ => by kernel_rfl) (bF hz27) fun a hF => ?_)
                refine sB 2 [(77, .bool false), (78, .bool false)] hF (by kernel_rfl) fun a hF => ?_
                refine wpList_nil ?_
                refine hK73 _ _ ?_
                refine cF hF (by kernel_rfl) (by kernel_rfl) ?_
                refine wp_skip ?_
                refine hK56 _ _ ?_
                refine wp_region_lit ?_
                refine wl (eP 79 (v0 := .int .i64 (IntKind.i64.wrap (1 + 1))) (v := .int .i64 2) hF (by kernel_rfl) (fun _ => by kernel_rfl) (vi (by decide)) fun a hF => ?_)
                refine sB 1 [(19, .int .i64 2)] hF (by kernel_rfl) fun a hF => ?_
                refine wpList_nil ?_
                refine hK53 _ _ ?_
                refine rounds_k fun K78 hK78 => ?_
                refine wp_seq_k fun K79 hK79 => ?_
                refine wp_region_lit ?_
                refine wl (eP 20 (v0 := .bool (decide (2 < 2))) (v := .bool false) hF (by kernel_rfl) (fun _ => by kernel_rfl) (bF (by omega)) fun a hF => ?_)
                refine wpList_nil ?_
                refine hK79 _ _ ?_
                refine wp_seq_k fun K80 hK80 => ?_
                refine cF hF (by kernel_rfl) (by kernel_rfl) ?_
                refine wp_exit ?_
                refine hK5 _ _ ?_
                refine wp_seq_k fun K81 hK81 => ?_
                refine wp_region_lit ?_
                refine sB 1 [(2, .bool true)] hF (by kernel_rfl) fun a hF => ?_
                refine wpList_nil ?_
                refine hK81 _ _ ?_
                refine wp_ret ?_
                refine hR0 _ _ ?_
                refine ret_of hF hM (.tmp rfl (.nil)) ?_
                exact ⟨rfl, hM.bel⟩
        · skip
          have hck : ckE dbb dbr ltr = 0 := ckE_zero hdb tr_ltr
          have hfi := hBd.done (by omega)
          have hfb : fiB dbb dbr ltr bd_ltr = true := decide_eq_true ⟨by rw [fiV_yes hck, hfi], hck⟩
          have hcf : cfB dbb dbr ltr = false := by rw [cfB_yes hck, hfi]; exact decide_eq_false (by omega)
          refine wp_region_lit ?_
          refine wl (eL 66 4 0 (v := .agg #[.int .i64 dbb, .int .i64 dbr]) hF hM (by kernel_rfl) rfl rfl (by kernel_rfl) (by kernel_rfl) fun a w hF hM => ?_)
          refine sB 2 [(67, .slice AA3 ltr.length cc3), (68, .int .i64 bd_ltr)] hF (by kernel_rfl) fun a hF => ?_
          refine wl (eM 69 (v := .bool true) hF hM (by kernel_rfl) (Yld.to (yld_call (f := 29) (args := #[.agg #[.int .i64 dbb, .int .i64 dbr], .slice AA3 ltr.length cc3, .int .i64 bd_ltr]) hF (by kernel_rfl) (fun _ => by kernel_rfl) (fun w hM => first3_w dbb dbr AA3 ltr _ bd_ltr w (ro_of_own (hM.ok 5 _ rfl)))) (congrArg Value.bool hfb)) fun a w hF hM => ?_)
          refine sB 2 [(70, .bool false), (71, .bool false)] hF (by kernel_rfl) fun a hF => ?_
          refine wl (eL 72 4 0 (v := .agg #[.int .i64 dbb, .int .i64 dbr]) hF hM (by kernel_rfl) rfl rfl (by kernel_rfl) (by kernel_rfl) fun a w hF hM => ?_)
          refine sB 1 [(73, .slice AA3 ltr.length cc3)] hF (by kernel_rfl) fun a hF => ?_
          refine wl (eM 74 (v := .bool false) hF hM (by kernel_rfl) (Yld.to (yld_call (f := 30) (args := #[.agg #[.int .i64 dbb, .int .i64 dbr], .slice AA3 ltr.length cc3]) hF (by kernel_rfl) (fun _ => by kernel_rfl) (fun w hM => fits3_w dbb dbr AA3 ltr _ w (ro_of_own (hM.ok 5 _ rfl)))) (congrArg Value.bool hcf)) fun a w hF hM => ?_)
          refine sB 1 [(75, .int .i64 bd_ltr)] hF (by kernel_rfl) fun a hF => ?_
          refine wl (eP 76 (v0 := .bool (decide (bd_ltr < 0))) (v := .bool false) hF (by kernel_rfl) (fun _ => by kernel_rfl) (bF hz18) fun a hF => ?_)
          refine sB 2 [(77, .bool false), (78, .bool false)] hF (by kernel_rfl) fun a hF => ?_
          refine wpList_nil ?_
          refine hK52 _ _ ?_
          refine cF hF (by kernel_rfl) (by kernel_rfl) ?_
          refine wp_skip ?_
          refine hK10 _ _ ?_
          refine wp_region_lit ?_
          refine wl (eP 79 (v0 := .int .i64 (IntKind.i64.wrap (0 + 1))) (v := .int .i64 1) hF (by kernel_rfl) (fun _ => by kernel_rfl) (vi (by decide)) fun a hF => ?_)
          refine sB 1 [(19, .int .i64 1)] hF (by kernel_rfl) fun a hF => ?_
          refine wpList_nil ?_
          refine hK7 _ _ ?_
          refine rounds_k fun K82 hK82 => ?_
          refine wp_seq_k fun K83 hK83 => ?_
          refine wp_region_lit ?_
          refine wl (eP 20 (v0 := .bool (decide (1 < 2))) (v := .bool true) hF (by kernel_rfl) (fun _ => by kernel_rfl) (bT (by omega)) fun a hF => ?_)
          refine wpList_nil ?_
          refine hK83 _ _ ?_
          refine wp_seq_k fun K84 hK84 => ?_
          refine cT hF (by kernel_rfl) (by kernel_rfl) ?_
          refine wp_skip ?_
          refine hK84 _ _ ?_
          refine wp_seq_k fun K85 hK85 => ?_
          refine wp_block ?_
          refine wp_seq_k fun K86 hK86 => ?_
          refine wp_region_lit ?_
          refine sB 2 [(21, .slice AA4 lcf.length cc4), (5, .slice AA4 lcf.length cc4)] hF (by kernel_rfl) fun a hF => ?_
          refine wpList_nil ?_
          refine hK86 _ _ ?_
          refine wp_seq_k fun K87 hK87 => ?_
          refine wp_region_lit ?_
          refine sB 1 [(22, .pointer (some ⟨bb2, 0, none⟩))] hF (by kernel_rfl) fun a hF => ?_
          refine wl (eL 23 4 0 (v := .int .i64 dbb) hF hM (by kernel_rfl) rfl rfl (by kernel_rfl) (by kernel_rfl) fun a w hF hM => ?_)
          refine wl (eP 24 (v0 := .int .i64 (IntKind.i64.wrap (dbb * 1048576))) (v := .int .i64 (dbb * 1048576)) hF (by kernel_rfl) (fun _ => by kernel_rfl) (wi (by omega)) fun a hF => ?_)
          refine sB 3 [(6, .int .i64 (dbb * 1048576)), (7, .int .i64 0), (8, .int .i64 (-1))] hF (by kernel_rfl) fun a hF => ?_
          refine wpList_nil ?_
          refine hK87 _ _ ?_
          refine wp_seq_k fun K88 hK88 => ?_
          refine wp_seq_k fun K89 hK89 => ?_
          have hl0 : lvN dbb dbr lcf 0 = dbb * 1048576 := rfl
          have ha0 : laN lcf 0 = 0 := rfl
          refine wp_region_lit ?_
          refine sB 1 [(9, .int .i64 0)] hF (by kernel_rfl) fun a hF => ?_
          refine wpList_nil ?_
          refine hK89 _ _ ?_
          refine wp_block ?_
          refine wp_loop_k (G := Nat × Int) (fun gg a w => Fr 80 [(6, some (.int .i64 (lvN dbb dbr lcf gg.1))), (7, some (.int .i64 (laN lcf gg.1))), (8, some (.int .i64 gg.2)), (9, some (.int .i64 (gg.1 : Int))), (2, some (.bool false)), (3, some (.pointer (some ⟨bb2, 0, none⟩))), (5, some (.slice AA4 lcf.length cc4)), (18, some (.agg #[.slice AA3 ltr.length cc3, .slice AA4 lcf.length cc4])), (19, some (.int .i64 1))] a ∧ Mem w0.heap.size w0 [(1, some (.ro Ga (gaps.map (Value.int .u16)))), (2, some (.ro Sa (sizes.map (Value.int .u16)))), (4, some (.row bb2 23 #[.int .i64 dbb, .int .i64 dbr])), (5, some (.own (.slice AA3 ltr.length cc3) 30 2 ltr.length (flat2 ltr))), (6, some (.own (.slice AA4 lcf.length cc4) 30 2 lcf.length (flat2 lcf)))] w ∧ ((gg.1 : Int) ≤ (lcf.length : Int)) ∧ (BadAt dbb dbr lcf gg.1 gg.2) ∧ (-1 ≤ gg.2) ∧ (gg.2 ≤ (gg.1 : Int))) (fun gg => lcf.length - gg.1) (0, -1) ?_ ?_
          · refine ⟨((((((((((Fr.nil hF).c hF (i := 19) rfl rfl).c hF (i := 18) rfl rfl).c hF (i := 5) rfl rfl).c hF (i := 3) rfl rfl).c hF (i := 2) rfl rfl).c hF (i := 9) rfl (vi (show (0 : Int) = (0 : Int) from by omega))).c hF (i := 8) rfl rfl).c hF (i := 7) rfl (vi (show (0 : Int) = laN lcf 0 from by omega))).c hF (i := 6) rfl (vi (show (dbb * 1048576 : Int) = lvN dbb dbr lcf 0 from by omega))), (hM.sub (((((Sub.nil.c (k := 6) rfl rfl).c (k := 5) rfl rfl).c (k := 4) rfl rfl).c (k := 2) rfl rfl).c (k := 1) rfl rfl)), (show (0 : Int) ≤ (lcf.length : Int) from by omega), (show BadAt dbb dbr lcf 0 (-1) from by exact BadAt.zero _ _ _), (show -1 ≤ (-1) from by omega), (show (-1) ≤ (0 : Int) from by omega)⟩
          · intro gg a w hI
            intro K90 hK90
            obtain ⟨k_lcf, bd_lcf⟩ := gg
            try dsimp only at hI hK90
            obtain ⟨hF, hM, hz28, hz29, hz30, hz31⟩ := hI
            have hBd : BadAt dbb dbr lcf k_lcf bd_lcf := by assumption
            refine wp_seq_k fun K91 hK91 => ?_
            refine wp_seq_k fun K92 hK92 => ?_
            by_cases hz32 : (k_lcf : Int) < (lcf.length : Int)
            · skip
              refine wp_region_lit ?_
              refine sB 3 [(25, .int .i64 (k_lcf : Int)), (26, .slice AA4 lcf.length cc4), (27, .int .i64 (lcf.length : Int))] hF (by kernel_rfl) fun a hF => ?_
              refine wl (eP 28 (v0 := .bool (decide ((k_lcf : Int) < (lcf.length : Int)))) (v := .bool true) hF (by kernel_rfl) (fun _ => by kernel_rfl) (bT hz32) fun a hF => ?_)
              refine sB 4 [(29, .bool true), (30, .int .i64 bd_lcf), (31, .bool (decide (bd_lcf < 0))), (32, .bool (decide (bd_lcf < 0)))] hF (by kernel_rfl) fun a hF => ?_
              refine wpList_nil ?_
              refine hK92 _ _ ?_
              by_cases hz33 : bd_lcf < 0
              · skip
                replace hF := hF.c hF (i := 31) (v := .bool true) rfl (bT hz33)
                replace hF := hF.c hF (i := 32) (v := .bool true) rfl (bT hz33)
                refine cT hF (by kernel_rfl) (by kernel_rfl) ?_
                refine wp_skip ?_
                refine hK91 _ _ ?_
                refine wp_seq_k fun K93 hK93 => ?_
                refine wp_block ?_
                refine wp_seq_k fun K94 hK94 => ?_
                have hta := tr_all tr_lcf k_lcf (by omega)
                have hlb := lv_bd (b := dbb) (r := dbr) (by omega) tr_lcf k_lcf (by omega)
                refine rQ hM (by kernel_rfl) (by kernel_rfl) ?_
                refine eQ 35 (v0 := .pointer (some ⟨bb2, 0, none⟩)) (v := .pointer (some ⟨bb2, 0, none⟩)) hF (by kernel_rfl) (fun _ => by kernel_rfl) rfl fun a hF => ?_
                refine eQL 36 4 0 (v := .int .i64 dbb) hF (by kernel_rfl) rfl rfl (by kernel_rfl) (by kernel_rfl) fun a hF => ?_
                refine eQ 37 (v0 := .int .i64 (IntKind.i64.wrap (dbb * 1048576))) (v := .int .i64 (dbb * 1048576)) hF (by kernel_rfl) (fun _ => by kernel_rfl) (wi (by omega)) fun a hF => ?_
                refine eQ 38 (v0 := .int .i64 (lvN dbb dbr lcf k_lcf)) (v := .int .i64 (lvN dbb dbr lcf k_lcf)) hF (by kernel_rfl) (fun _ => by kernel_rfl) rfl fun a hF => ?_
                refine eQ 39 (v0 := .pointer (some ⟨bb2, 1, none⟩)) (v := .pointer (some ⟨bb2, 1, none⟩)) hF (by kernel_rfl) (fun _ => by kernel_rfl) rfl fun a hF => ?_
                refine eQL 40 4 1 (v := .int .i64 dbr) hF (by kernel_rfl) rfl rfl (by kernel_rfl) (by kernel_rfl) fun a hF => ?_
                refine eQ 41 (v0 := .slice AA4 lcf.length cc4) (v := .slice AA4 lcf.length cc4) hF (by kernel_rfl) (fun _ => by kernel_rfl) rfl fun a hF => ?_
                refine eQ 42 (v0 := .int .i64 (k_lcf : Int)) (v := .int .i64 (k_lcf : Int)) hF (by kernel_rfl) (fun _ => by kernel_rfl) rfl fun a hF => ?_
                refine eQ2 43 (v := .pointer (some (ea AA4 (k_lcf * 2)))) hF (by kernel_rfl) (yld_ix (kd := .i64) (e := 30) (len := lcf.length) (cap := cc4) (i := (k_lcf : Int)) (size := 2) (A := AA4) hF rfl (by kernel_rfl) (by kernel_rfl) (by kernel_rfl) (by kernel_rfl) (by kernel_rfl) (roO 6 rfl) (by omega) (by omega) (by rw [flat2_length]; omega)) fun a hF => ?_
                refine eQ 44 (v0 := .pointer (some (ea AA4 (k_lcf * 2)))) (v := .pointer (some (ea AA4 (k_lcf * 2)))) hF (by kernel_rfl) (fun _ => by kernel_rfl) rfl fun a hF => ?_
                refine eQ2 45 (v := .int .i64 (pr lcf k_lcf).1) hF (by kernel_rfl) (yld_ro1 (A := AA4) (j := k_lcf * 2) hF rfl (by kernel_rfl) (by kernel_rfl) (roO 6 rfl) (by kernel_rfl) (pr_fst (k := k_lcf) (by omega) (by omega))) fun a hF => ?_
                refine eQ 46 (v0 := .int .i64 (laN lcf k_lcf)) (v := .int .i64 (laN lcf k_lcf)) hF (by kernel_rfl) (fun _ => by kernel_rfl) rfl fun a hF => ?_
                refine eQ 47 (v0 := .int .i64 (IntKind.i64.wrap ((pr lcf k_lcf).1 - laN lcf k_lcf))) (v := .int .i64 ((pr lcf k_lcf).1 - laN lcf k_lcf)) hF (by kernel_rfl) (fun _ => by kernel_rfl) (wi (by omega)) fun a hF => ?_
                have hz34 : 0 ≤ dbr * ((pr lcf k_lcf).1 - laN lcf k_lcf) ∧ dbr * ((pr lcf k_lcf).1 - laN lcf k_lcf) ≤ 2305843009213693952 := mul_bd (1) (2097152) (0) (1099511627776) (by omega) (by omega) (by omega) (by omega) (by decide)
                refine eQ 48 (v0 := .int .i64 (IntKind.i64.wrap (dbr * ((pr lcf k_lcf).1 - laN lcf k_lcf)))) (v := .int .i64 (dbr * ((pr lcf k_lcf).1 - laN lcf k_lcf))) hF (by kernel_rfl) (fun _ => by kernel_rfl) (wi (by omega)) fun a hF => ?_
                refine eQ 49 (v0 := .int .i64 (IntKind.i64.wrap (lvN dbb dbr lcf k_lcf + dbr * ((pr lcf k_lcf).1 - laN lcf k_lcf)))) (v := .int .i64 (lvN dbb dbr lcf k_lcf + dbr * ((pr lcf k_lcf).1 - laN lcf k_lcf))) hF (by kernel_rfl) (fun _ => by kernel_rfl) (wi (by omega)) fun a hF => ?_
                refine eQ 50 (v0 := .int .i64 (if lvN dbb dbr lcf k_lcf + dbr * ((pr lcf k_lcf).1 - laN lcf k_lcf) < dbb * 1048576 then lvN dbb dbr lcf k_lcf + dbr * ((pr lcf k_lcf).1 - laN lcf k_lcf) else dbb * 1048576)) (v := .int .i64 (min (dbb * 1048576) (lvN dbb dbr lcf k_lcf + dbr * ((pr lcf k_lcf).1 - laN lcf k_lcf)))) hF (by kernel_rfl) (fun _ => by kernel_rfl) (vi (min_if _ _)) fun a hF => ?_
                refine eQ 51 (v0 := .slice AA4 lcf.length cc4) (v := .slice AA4 lcf.length cc4) hF (by kernel_rfl) (fun _ => by kernel_rfl) rfl fun a hF => ?_
                refine eQ 52 (v0 := .int .i64 (k_lcf : Int)) (v := .int .i64 (k_lcf : Int)) hF (by kernel_rfl) (fun _ => by kernel_rfl) rfl fun a hF => ?_
                refine eQ2 53 (v := .pointer (some (ea AA4 (k_lcf * 2)))) hF (by kernel_rfl) (yld_ix (kd := .i64) (e := 30) (len := lcf.length) (cap := cc4) (i := (k_lcf : Int)) (size := 2) (A := AA4) hF rfl (by kernel_rfl) (by kernel_rfl) (by kernel_rfl) (by kernel_rfl) (by kernel_rfl) (roO 6 rfl) (by omega) (by omega) (by rw [flat2_length]; omega)) fun a hF => ?_
                refine eQ 54 (v0 := .pointer (some (ea AA4 (k_lcf * 2 + 1)))) (v := .pointer (some (ea AA4 (k_lcf * 2 + 1)))) hF (by kernel_rfl) (fun _ => by kernel_rfl) rfl fun a hF => ?_
                refine eQ2 55 (v := .int .i64 (pr lcf k_lcf).2) hF (by kernel_rfl) (yld_ro1 (A := AA4) (j := k_lcf * 2 + 1) hF rfl (by kernel_rfl) (by kernel_rfl) (roO 6 rfl) (by kernel_rfl) (pr_snd (k := k_lcf) (by omega) (by omega))) fun a hF => ?_
                refine eQ 56 (v0 := .int .i64 (IntKind.i64.wrap ((pr lcf k_lcf).2 * 1048576))) (v := .int .i64 ((pr lcf k_lcf).2 * 1048576)) hF (by kernel_rfl) (fun _ => by kernel_rfl) (wi (by omega)) fun a hF => ?_
                refine eQ 57 (v0 := .int .i64 (IntKind.i64.wrap (min (dbb * 1048576) (lvN dbb dbr lcf k_lcf + dbr * ((pr lcf k_lcf).1 - laN lcf k_lcf)) - (pr lcf k_lcf).2 * 1048576))) (v := .int .i64 (min (dbb * 1048576) (lvN dbb dbr lcf k_lcf + dbr * ((pr lcf k_lcf).1 - laN lcf k_lcf)) - (pr lcf k_lcf).2 * 1048576)) hF (by kernel_rfl) (fun _ => by kernel_rfl) (wi (by omega)) fun a hF => ?_
                refine eQ 6 (v0 := .int .i64 (min (dbb * 1048576) (lvN dbb dbr lcf k_lcf + dbr * ((pr lcf k_lcf).1 - laN lcf k_lcf)) - (pr lcf k_lcf).2 * 1048576)) (v := .int .i64 (min (dbb * 1048576) (lvN dbb dbr lcf k_lcf + dbr * ((pr lcf k_lcf).1 - laN lcf k_lcf)) - (pr lcf k_lcf).2 * 1048576)) hF (by kernel_rfl) (fun _ => by kernel_rfl) rfl fun a hF => ?_
                refine wpQuiet_nil ?_
                intro w hM
                refine hK94 _ _ ?_
                refine wp_seq_k fun K95 hK95 => ?_
                refine wp_region_lit ?_
                refine sB 2 [(58, .slice AA4 lcf.length cc4), (59, .int .i64 (k_lcf : Int))] hF (by kernel_rfl) fun a hF => ?_
                refine wl (eM 60 (v := .pointer (some (ea AA4 (k_lcf * 2)))) hF hM (by kernel_rfl) (yld_ix (kd := .i64) (e := 30) (len := lcf.length) (cap := cc4) (i := (k_lcf : Int)) (size := 2) (A := AA4) hF rfl (by kernel_rfl) (by kernel_rfl) (by kernel_rfl) (by kernel_rfl) (by kernel_rfl) (roO 6 rfl) (by omega) (by omega) (by rw [flat2_length]; omega)) fun a w hF hM => ?_)
                refine sB 1 [(61, .pointer (some (ea AA4 (k_lcf * 2))))] hF (by kernel_rfl) fun a hF => ?_
                refine wl (eM 62 (v := .int .i64 (pr lcf k_lcf).1) hF hM (by kernel_rfl) (yld_ro1 (A := AA4) (j := k_lcf * 2) hF rfl (by kernel_rfl) (by kernel_rfl) (roO 6 rfl) (by kernel_rfl) (pr_fst (k := k_lcf) (by omega) (by omega))) fun a w hF hM => ?_)
                refine sB 1 [(7, .int .i64 (pr lcf k_lcf).1)] hF (by kernel_rfl) fun a hF => ?_
                refine wpList_nil ?_
                refine hK95 _ _ ?_
                refine wp_seq_k fun K96 hK96 => ?_
                refine wp_region_lit ?_
                refine sB 2 [(63, .int .i64 (min (dbb * 1048576) (lvN dbb dbr lcf k_lcf + dbr * ((pr lcf k_lcf).1 - laN lcf k_lcf)) - (pr lcf k_lcf).2 * 1048576)), (64, .bool (decide (min (dbb * 1048576) (lvN dbb dbr lcf k_lcf + dbr * ((pr lcf k_lcf).1 - laN lcf k_lcf)) - (pr lcf k_lcf).2 * 1048576 < 0)))] hF (by kernel_rfl) fun a hF => ?_
                refine wpList_nil ?_
                refine hK96 _ _ ?_
                by_cases hz35 : min (dbb * 1048576) (lvN dbb dbr lcf k_lcf + dbr * ((pr lcf k_lcf).1 - laN lcf k_lcf)) - (pr lcf k_lcf).2 * 1048576 < 0
                · skip
                  replace hF := hF.c hF (i := 64) (v := .bool true) rfl (bT hz35)
                  refine cT hF (by kernel_rfl) (by kernel_rfl) ?_
                  refine wp_region_lit ?_
                  refine sB 2 [(65, .int .i64 (k_lcf : Int)), (8, .int .i64 (k_lcf : Int))] hF (by kernel_rfl) fun a hF => ?_
                  refine wpList_nil ?_
                  refine hK93 _ _ ?_
                  refine wp_region_lit ?_
                  refine sB 1 [(33, .int .i64 (k_lcf : Int))] hF (by kernel_rfl) fun a hF => ?_
                  refine wl (eP 34 (v0 := .int .i64 (IntKind.i64.wrap ((k_lcf : Int) + 1))) (v := .int .i64 ((k_lcf : Int) + 1)) hF (by kernel_rfl) (fun _ => by kernel_rfl) (wi (by omega)) fun a hF => ?_)
                  refine sB 1 [(9, .int .i64 ((k_lcf : Int) + 1))] hF (by kernel_rfl) fun a hF => ?_
                  refine wpList_nil ?_
                  have hlv : lvN dbb dbr lcf (k_lcf + 1) = min (dbb * 1048576) (lvN dbb dbr lcf k_lcf + dbr * ((pr lcf k_lcf).1 - laN lcf k_lcf)) - (pr lcf k_lcf).2 * 1048576 := rfl
                  have hla : laN lcf (k_lcf + 1) = (pr lcf k_lcf).1 := rfl
                  refine hK90 _ _ ⟨(k_lcf + 1, (k_lcf : Int)), ⟨((((((((((Fr.nil hF).c hF (i := 19) rfl rfl).c hF (i := 18) rfl rfl).c hF (i := 5) rfl rfl).c hF (i := 3) rfl rfl).c hF (i := 2) rfl rfl).c hF (i := 9) rfl (vi (show ((k_lcf : Int) + 1 : Int) = ((k_lcf + 1) : Int) from by omega))).c hF (i := 8) rfl rfl).c hF (i := 7) rfl (vi (show ((pr lcf k_lcf).1 : Int) = laN lcf (k_lcf + 1) from by omega))).c hF (i := 6) rfl (vi (show (min (dbb * 1048576) (lvN dbb dbr lcf k_lcf + dbr * ((pr lcf k_lcf).1 - laN lcf k_lcf)) - (pr lcf k_lcf).2 * 1048576 : Int) = lvN dbb dbr lcf (k_lcf + 1) from by omega))), (hM.sub (((((Sub.nil.c (k := 6) rfl rfl).c (k := 5) rfl rfl).c (k := 4) rfl rfl).c (k := 2) rfl rfl).c (k := 1) rfl rfl)), (show ((k_lcf + 1) : Int) ≤ (lcf.length : Int) from by omega), (show BadAt dbb dbr lcf (k_lcf + 1) (k_lcf : Int) from by exact hBd.bad (by omega) (by omega) (by omega)), (show -1 ≤ (k_lcf : Int) from by omega), (show (k_lcf : Int) ≤ ((k_lcf + 1) : Int) from by omega)⟩, (show lcf.length - (k_lcf + 1) < lcf.length - k_lcf from by omega)⟩
                · skip
                  replace hF := hF.c hF (i := 64) (v := .bool false) rfl (bF hz35)
                  refine cF hF (by kernel_rfl) (by kernel_rfl) ?_
                  refine wp_skip ?_
                  refine hK93 _ _ ?_
                  refine wp_region_lit ?_
                  refine sB 1 [(33, .int .i64 (k_lcf : Int))] hF (by kernel_rfl) fun a hF => ?_
                  refine wl (eP 34 (v0 := .int .i64 (IntKind.i64.wrap ((k_lcf : Int) + 1))) (v := .int .i64 ((k_lcf : Int) + 1)) hF (by kernel_rfl) (fun _ => by kernel_rfl) (wi (by omega)) fun a hF => ?_)
                  refine sB 1 [(9, .int .i64 ((k_lcf : Int) + 1))] hF (by kernel_rfl) fun a hF => ?_
                  refine wpList_nil ?_
                  have hlv : lvN dbb dbr lcf (k_lcf + 1) = min (dbb * 1048576) (lvN dbb dbr lcf k_lcf + dbr * ((pr lcf k_lcf).1 - laN lcf k_lcf)) - (pr lcf k_lcf).2 * 1048576 := rfl
                  have hla : laN lcf (k_lcf + 1) = (pr lcf k_lcf).1 := rfl
                  refine hK90 _ _ ⟨(k_lcf + 1, bd_lcf), ⟨((((((((((Fr.nil hF).c hF (i := 19) rfl rfl).c hF (i := 18) rfl rfl).c hF (i := 5) rfl rfl).c hF (i := 3) rfl rfl).c hF (i := 2) rfl rfl).c hF (i := 9) rfl (vi (show ((k_lcf : Int) + 1 : Int) = ((k_lcf + 1) : Int) from by omega))).c hF (i := 8) rfl rfl).c hF (i := 7) rfl (vi (show ((pr lcf k_lcf).1 : Int) = laN lcf (k_lcf + 1) from by omega))).c hF (i := 6) rfl (vi (show (min (dbb * 1048576) (lvN dbb dbr lcf k_lcf + dbr * ((pr lcf k_lcf).1 - laN lcf k_lcf)) - (pr lcf k_lcf).2 * 1048576 : Int) = lvN dbb dbr lcf (k_lcf + 1) from by omega))), (hM.sub (((((Sub.nil.c (k := 6) rfl rfl).c (k := 5) rfl rfl).c (k := 4) rfl rfl).c (k := 2) rfl rfl).c (k := 1) rfl rfl)), (show ((k_lcf + 1) : Int) ≤ (lcf.length : Int) from by omega), (show BadAt dbb dbr lcf (k_lcf + 1) bd_lcf from by exact hBd.good (by omega) (by omega)), (show -1 ≤ bd_lcf from by omega), (show bd_lcf ≤ ((k_lcf + 1) : Int) from by omega)⟩, (show lcf.length - (k_lcf + 1) < lcf.length - k_lcf from by omega)⟩
              · skip
                replace hF := hF.c hF (i := 31) (v := .bool false) rfl (bF hz33)
                replace hF := hF.c hF (i := 32) (v := .bool false) rfl (bF hz33)
                refine cF hF (by kernel_rfl) (by kernel_rfl) ?_
                refine wp_exit ?_
                refine hK88 _ _ ?_
                refine wp_seq_k fun K97 hK97 => ?_
                have hck : ckE dbb dbr lcf = 0 := ckE_zero hdb tr_lcf
                have hfi := hBd.done (by omega)
                have hfb : fiB dbb dbr lcf bd_lcf = true := decide_eq_true ⟨by rw [fiV_yes hck, hfi], hck⟩
                have hcf : cfB dbb dbr lcf = false := by rw [cfB_yes hck, hfi]; exact decide_eq_false (by omega)
                refine wp_region_lit ?_
                refine wl (eL 66 4 0 (v := .agg #[.int .i64 dbb, .int .i64 dbr]) hF hM (by kernel_rfl) rfl rfl (by kernel_rfl) (by kernel_rfl) fun a w hF hM => ?_)
                refine sB 2 [(67, .slice AA4 lcf.length cc4), (68, .int .i64 bd_lcf)] hF (by kernel_rfl) fun a hF => ?_
                refine wl (eM 69 (v := .bool true) hF hM (by kernel_rfl) (Yld.to (yld_call (f := 29) (args := #[.agg #[.int .i64 dbb, .int .i64 dbr], .slice AA4 lcf.length cc4, .int .i64 bd_lcf]) hF (by kernel_rfl) (fun _ => by kernel_rfl) (fun w hM => first3_w dbb dbr AA4 lcf _ bd_lcf w (ro_of_own (hM.ok 6 _ rfl)))) (congrArg Value.bool hfb)) fun a w hF hM => ?_)
                refine sB 2 [(70, .bool false), (71, .bool false)] hF (by kernel_rfl) fun a hF => ?_
                refine wl (eL 72 4 0 (v := .agg #[.int .i64 dbb, .int .i64 dbr]) hF hM (by kernel_rfl) rfl rfl (by kernel_rfl) (by kernel_rfl) fun a w hF hM => ?_)
                refine sB 1 [(73, .slice AA4 lcf.length cc4)] hF (by kernel_rfl) fun a hF => ?_
                refine wl (eM 74 (v := .bool false) hF hM (by kernel_rfl) (Yld.to (yld_call (f := 30) (args := #[.agg #[.int .i64 dbb, .int .i64 dbr], .slice AA4 lcf.length cc4]) hF (by kernel_rfl) (fun _ => by kernel_rfl) (fun w hM => fits3_w dbb dbr AA4 lcf _ w (ro_of_own (hM.ok 6 _ rfl)))) (congrArg Value.bool hcf)) fun a w hF hM => ?_)
                refine sB 1 [(75, .int .i64 bd_lcf)] hF (by kernel_rfl) fun a hF => ?_
                refine wl (eP 76 (v0 := .bool (decide (bd_lcf < 0))) (v := .bool false) hF (by kernel_rfl) (fun _ => by kernel_rfl) (bF hz33) fun a hF => ?_)
                refine sB 2 [(77, .bool false), (78, .bool false)] hF (by kernel_rfl) fun a hF => ?_
                refine wpList_nil ?_
                refine hK97 _ _ ?_
                refine cF hF (by kernel_rfl) (by kernel_rfl) ?_
                refine wp_skip ?_
                refine hK85 _ _ ?_
                refine wp_region_lit ?_
                refine wl (eP 79 (v0 := .int .i64 (IntKind.i64.wrap (1 + 1))) (v := .int .i64 2) hF (by kernel_rfl) (fun _ => by kernel_rfl) (vi (by decide)) fun a hF => ?_)
                refine sB 1 [(19, .int .i64 2)] hF (by kernel_rfl) fun a hF => ?_
                refine wpList_nil ?_
                refine hK82 _ _ ?_
                refine rounds_k fun K98 hK98 => ?_
                refine wp_seq_k fun K99 hK99 => ?_
                refine wp_region_lit ?_
                refine wl (eP 20 (v0 := .bool (decide (2 < 2))) (v := .bool false) hF (by kernel_rfl) (fun _ => by kernel_rfl) (bF (by omega)) fun a hF => ?_)
                refine wpList_nil ?_
                refine hK99 _ _ ?_
                refine wp_seq_k fun K100 hK100 => ?_
                refine cF hF (by kernel_rfl) (by kernel_rfl) ?_
                refine wp_exit ?_
                refine hK5 _ _ ?_
                refine wp_seq_k fun K101 hK101 => ?_
                refine wp_region_lit ?_
                refine sB 1 [(2, .bool true)] hF (by kernel_rfl) fun a hF => ?_
                refine wpList_nil ?_
                refine hK101 _ _ ?_
                refine wp_ret ?_
                refine hR0 _ _ ?_
                refine ret_of hF hM (.tmp rfl (.nil)) ?_
                exact ⟨rfl, hM.bel⟩
            · skip
              refine wp_region_lit ?_
              refine sB 3 [(25, .int .i64 (k_lcf : Int)), (26, .slice AA4 lcf.length cc4), (27, .int .i64 (lcf.length : Int))] hF (by kernel_rfl) fun a hF => ?_
              refine wl (eP 28 (v0 := .bool (decide ((k_lcf : Int) < (lcf.length : Int)))) (v := .bool false) hF (by kernel_rfl) (fun _ => by kernel_rfl) (bF hz32) fun a hF => ?_)
              refine sB 4 [(29, .bool false), (30, undef), (31, undef), (32, .bool false)] hF (by kernel_rfl) fun a hF => ?_
              refine wpList_nil ?_
              refine hK92 _ _ ?_
              refine cF hF (by kernel_rfl) (by kernel_rfl) ?_
              refine wp_exit ?_
              refine hK88 _ _ ?_
              refine wp_seq_k fun K102 hK102 => ?_
              by_cases hz36 : bd_lcf < 0
              · skip
                have hck : ckE dbb dbr lcf = 0 := ckE_zero hdb tr_lcf
                have hfi := hBd.done (by omega)
                have hfb : fiB dbb dbr lcf bd_lcf = true := decide_eq_true ⟨by rw [fiV_yes hck, hfi], hck⟩
                have hcf : cfB dbb dbr lcf = true := by rw [cfB_yes hck, hfi]; exact decide_eq_true (by omega)
                refine wp_region_lit ?_
                refine wl (eL 66 4 0 (v := .agg #[.int .i64 dbb, .int .i64 dbr]) hF hM (by kernel_rfl) rfl rfl (by kernel_rfl) (by kernel_rfl) fun a w hF hM => ?_)
                refine sB 2 [(67, .slice AA4 lcf.length cc4), (68, .int .i64 bd_lcf)] hF (by kernel_rfl) fun a hF => ?_
                refine wl (eM 69 (v := .bool true) hF hM (by kernel_rfl) (Yld.to (yld_call (f := 29) (args := #[.agg #[.int .i64 dbb, .int .i64 dbr], .slice AA4 lcf.length cc4, .int .i64 bd_lcf]) hF (by kernel_rfl) (fun _ => by kernel_rfl) (fun w hM => first3_w dbb dbr AA4 lcf _ bd_lcf w (ro_of_own (hM.ok 6 _ rfl)))) (congrArg Value.bool hfb)) fun a w hF hM => ?_)
                refine sB 2 [(70, .bool false), (71, .bool false)] hF (by kernel_rfl) fun a hF => ?_
                refine wl (eL 72 4 0 (v := .agg #[.int .i64 dbb, .int .i64 dbr]) hF hM (by kernel_rfl) rfl rfl (by kernel_rfl) (by kernel_rfl) fun a w hF hM => ?_)
                refine sB 1 [(73, .slice AA4 lcf.length cc4)] hF (by kernel_rfl) fun a hF => ?_
                refine wl (eM 74 (v := .bool true) hF hM (by kernel_rfl) (Yld.to (yld_call (f := 30) (args := #[.agg #[.int .i64 dbb, .int .i64 dbr], .slice AA4 lcf.length cc4]) hF (by kernel_rfl) (fun _ => by kernel_rfl) (fun w hM => fits3_w dbb dbr AA4 lcf _ w (ro_of_own (hM.ok 6 _ rfl)))) (congrArg Value.bool hcf)) fun a w hF hM => ?_)
                refine sB 1 [(75, .int .i64 bd_lcf)] hF (by kernel_rfl) fun a hF => ?_
                refine wl (eP 76 (v0 := .bool (decide (bd_lcf < 0))) (v := .bool true) hF (by kernel_rfl) (fun _ => by kernel_rfl) (bT hz36) fun a hF => ?_)
                refine sB 2 [(77, .bool false), (78, .bool false)] hF (by kernel_rfl) fun a hF => ?_
                refine wpList_nil ?_
                refine hK102 _ _ ?_
                refine cF hF (by kernel_rfl) (by kernel_rfl) ?_
                refine wp_skip ?_
                refine hK85 _ _ ?_
                refine wp_region_lit ?_
                refine wl (eP 79 (v0 := .int .i64 (IntKind.i64.wrap (1 + 1))) (v := .int .i64 2) hF (by kernel_rfl) (fun _ => by kernel_rfl) (vi (by decide)) fun a hF => ?_)
                refine sB 1 [(19, .int .i64 2)] hF (by kernel_rfl) fun a hF => ?_
                refine wpList_nil ?_
                refine hK82 _ _ ?_
                refine rounds_k fun K103 hK103 => ?_
                refine wp_seq_k fun K104 hK104 => ?_
                refine wp_region_lit ?_
                refine wl (eP 20 (v0 := .bool (decide (2 < 2))) (v := .bool false) hF (by kernel_rfl) (fun _ => by kernel_rfl) (bF (by omega)) fun a hF => ?_)
                refine wpList_nil ?_
                refine hK104 _ _ ?_
                refine wp_seq_k fun K105 hK105 => ?_
                refine cF hF (by kernel_rfl) (by kernel_rfl) ?_
                refine wp_exit ?_
                refine hK5 _ _ ?_
                refine wp_seq_k fun K106 hK106 => ?_
                refine wp_region_lit ?_
                refine sB 1 [(2, .bool true)] hF (by kernel_rfl) fun a hF => ?_
                refine wpList_nil ?_
                refine hK106 _ _ ?_
                refine wp_ret ?_
                refine hR0 _ _ ?_
                refine ret_of hF hM (.tmp rfl (.nil)) ?_
                exact ⟨rfl, hM.bel⟩
              · skip
                have hck : ckE dbb dbr lcf = 0 := ckE_zero hdb tr_lcf
                have hfi := hBd.done (by omega)
                have hfb : fiB dbb dbr lcf bd_lcf = true := decide_eq_true ⟨by rw [fiV_yes hck, hfi], hck⟩
                have hcf : cfB dbb dbr lcf = false := by rw [cfB_yes hck, hfi]; exact decide_eq_false (by omega)
                refine wp_region_lit ?_
                refine wl (eL 66 4 0 (v := .agg #[.int .i64 dbb, .int .i64 dbr]) hF hM (by kernel_rfl) rfl rfl (by kernel_rfl) (by kernel_rfl) fun a w hF hM => ?_)
                refine sB 2 [(67, .slice AA4 lcf.length cc4), (68, .int .i64 bd_lcf)] hF (by kernel_rfl) fun a hF => ?_
                refine wl (eM 69 (v := .bool true) hF hM (by kernel_rfl) (Yld.to (yld_call (f := 29) (args := #[.agg #[.int .i64 dbb, .int .i64 dbr], .slice AA4 lcf.length cc4, .int .i64 bd_lcf]) hF (by kernel_rfl) (fun _ => by kernel_rfl) (fun w hM => first3_w dbb dbr AA4 lcf _ bd_lcf w (ro_of_own (hM.ok 6 _ rfl)))) (congrArg Value.bool hfb)) fun a w hF hM => ?_)
                refine sB 2 [(70, .bool false), (71, .bool false)] hF (by kernel_rfl) fun a hF => ?_
                refine wl (eL 72 4 0 (v := .agg #[.int .i64 dbb, .int .i64 dbr]) hF hM (by kernel_rfl) rfl rfl (by kernel_rfl) (by kernel_rfl) fun a w hF hM => ?_)
                refine sB 1 [(73, .slice AA4 lcf.length cc4)] hF (by kernel_rfl) fun a hF => ?_
                refine wl (eM 74 (v := .bool false) hF hM (by kernel_rfl) (Yld.to (yld_call (f := 30) (args := #[.agg #[.int .i64 dbb, .int .i64 dbr], .slice AA4 lcf.length cc4]) hF (by kernel_rfl) (fun _ => by kernel_rfl) (fun w hM => fits3_w dbb dbr AA4 lcf _ w (ro_of_own (hM.ok 6 _ rfl)))) (congrArg Value.bool hcf)) fun a w hF hM => ?_)
                refine sB 1 [(75, .int .i64 bd_lcf)] hF (by kernel_rfl) fun a hF => ?_
                refine wl (eP 76 (v0 := .bool (decide (bd_lcf < 0))) (v := .bool false) hF (by kernel_rfl) (fun _ => by kernel_rfl) (bF hz36) fun a hF => ?_)
                refine sB 2 [(77, .bool false), (78, .bool false)] hF (by kernel_rfl) fun a hF => ?_
                refine wpList_nil ?_
                refine hK102 _ _ ?_
                refine cF hF (by kernel_rfl) (by kernel_rfl) ?_
                refine wp_skip ?_
                refine hK85 _ _ ?_
                refine wp_region_lit ?_
                refine wl (eP 79 (v0 := .int .i64 (IntKind.i64.wrap (1 + 1))) (v := .int .i64 2) hF (by kernel_rfl) (fun _ => by kernel_rfl) (vi (by decide)) fun a hF => ?_)
                refine sB 1 [(19, .int .i64 2)] hF (by kernel_rfl) fun a hF => ?_
                refine wpList_nil ?_
                refine hK82 _ _ ?_
                refine rounds_k fun K107 hK107 => ?_
                refine wp_seq_k fun K108 hK108 => ?_
                refine wp_region_lit ?_
                refine wl (eP 20 (v0 := .bool (decide (2 < 2))) (v := .bool false) hF (by kernel_rfl) (fun _ => by kernel_rfl) (bF (by omega)) fun a hF => ?_)
                refine wpList_nil ?_
                refine hK108 _ _ ?_
                refine wp_seq_k fun K109 hK109 => ?_
                refine cF hF (by kernel_rfl) (by kernel_rfl) ?_
                refine wp_exit ?_
                refine hK5 _ _ ?_
                refine wp_seq_k fun K110 hK110 => ?_
                refine wp_region_lit ?_
                refine sB 1 [(2, .bool true)] hF (by kernel_rfl) fun a hF => ?_
                refine wpList_nil ?_
                refine hK110 _ _ ?_
                refine wp_ret ?_
                refine hR0 _ _ ?_
                refine ret_of hF hM (.tmp rfl (.nil)) ?_
                exact ⟨rfl, hM.bel⟩

end Go.Proofs.Ytecofcjlokfkhaa
