/-
  The walk of BucketLeast.
-/
import Derived.Test.YtecofcjlokfkhaaBkD
import Derived.Test.YtecofcjlokfkhaaCfTrW
namespace Go.Proofs.Ytecofcjlokfkhaa
open Go.RowKit
set_option linter.unusedVariables false
set_option linter.unusedSimpArgs false

set_option maxRecDepth 100000 in
set_option maxHeartbeats 4000000 in
theorem bucketLeast_walk (bu ra : Int) (Ga : Option Addr) (gaps : List Int) (cg : Nat) (Sa : Option Addr) (sizes : List Int) (cs : Nat) (mo : Int) (w0 : World) (hGa : Ro w0 Ga (gaps.map (Value.int .u16))) (hSa : Ro w0 Sa (sizes.map (Value.int .u16))) (hg : All16 gaps) (hs : All16 sizes) (hmg : gaps.length ≤ 9223372036854775807) (hms : sizes.length ≤ 9223372036854775807) (h : 0 ≤ bu ∧ bu < 4294967296 ∧ 0 ≤ ra ∧ ra < 4294967296 ∧ 0 ≤ mo ∧ mo < 65536) :
    Calls Try.prog 7 #[.agg #[.int .u32 bu, .int .u32 ra, .slice Ga gaps.length cg, .slice Sa sizes.length cs], .int .u16 mo] w0 (Ret w0 (.bool true)) := by
  refine enterK 82 Try.func7 rfl rfl rfl ?_
  intro a hF Q0 hR0 hN0
  have hM := Mem.start w0
  replace hM := hM.addOld 1 hGa (Nat.le_refl _)
  replace hM := hM.addOld 2 hSa (Nat.le_refl _)
  refine wp_seq_k fun K1 hK1 => ?_
  refine wp_region_lit ?_
  refine wl (eN 2 3 (t := 27) (fun b => .pointer (some ⟨b, 0, none⟩)) #[.int .u32 bu, .int .u32 ra, .slice Ga gaps.length cg, .slice Sa sizes.length cs] hF hM (by kernel_rfl) (fun _ => by kernel_rfl) fun bb1 a w hF hM => ?_)
  refine sB 1 [(4, .bool false)] hF (by kernel_rfl) fun a hF => ?_
  refine wpList_nil ?_
  refine hK1 _ _ ?_
  refine wp_seq_k fun K2 hK2 => ?_
  refine wp_seq_k fun K3 hK3 => ?_
  refine wp_region_lit ?_
  refine wl (eM 11 (v := .bool true) hF hM (by kernel_rfl) (yld_call (f := 21) (args := #[]) hF (by kernel_rfl) (fun _ => by kernel_rfl) (fun w hM => works_w w)) fun a w hF hM => ?_)
  refine sB 1 [(12, .bool false)] hF (by kernel_rfl) fun a hF => ?_
  refine wpList_nil ?_
  refine hK3 _ _ ?_
  refine cF hF (by kernel_rfl) (by kernel_rfl) ?_
  refine wp_skip ?_
  refine hK2 _ _ ?_
  refine wp_seq_k fun K4 hK4 => ?_
  obtain ⟨dbb, e_dbb⟩ : ∃ x : Int, x = 1 + bu % 1048576 := ⟨_, rfl⟩
  obtain ⟨dbr, e_dbr⟩ : ∃ x : Int, x = 1 + ra % 2097152 := ⟨_, rfl⟩
  have hdb : bkE dbb dbr = 0 := by unfold bkE; omega
  have := bkE_ok hdb
  obtain ⟨ltr, e_ltr⟩ : ∃ x : List (Int × Int), x = drTrace gaps sizes := ⟨_, rfl⟩
  have tr_ltr : trE ltr = 0 := by rw [e_ltr]; exact dr_trE hg hs
  have le_ltr : ltr.length ≤ 30 := by rw [e_ltr]; exact dr_le _ _
  refine rF (by kernel_rfl) (by kernel_rfl) (fun S a w => ∃ AA2 : Option Addr, ∃ cc2 : Nat, ∃ bb3 : Nat, Fr 82 [(1, some (.int .u16 mo)), (2, some (.pointer (some ⟨bb1, 0, none⟩))), (4, some (.bool false)), (5, (cond (S.getD 4 false) (some (.pointer (some ⟨bb3, 0, none⟩))) none)), (6, (cond (S.getD 6 false) (some (.slice AA2 ltr.length cc2)) none)), (13, (cond (S.getD 0 false) (some (.agg #[.int .u32 bu, .int .u32 ra, .slice Ga gaps.length cg, .slice Sa sizes.length cs])) none)), (14, (cond (S.getD 1 false) (some (.agg #[.int .i64 dbb, .int .i64 dbr])) none)), (15, (cond (S.getD 2 false) (some (.agg #[.int .u32 bu, .int .u32 ra, .slice Ga gaps.length cg, .slice Sa sizes.length cs])) none)), (16, (cond (S.getD 3 false) (some (.slice AA2 ltr.length cc2)) none))] a ∧ Mem w0.heap.size w0 [(1, some (.ro Ga (gaps.map (Value.int .u16)))), (2, some (.ro Sa (sizes.map (Value.int .u16)))), (3, some (.row bb1 27 #[.int .u32 bu, .int .u32 ra, .slice Ga gaps.length cg, .slice Sa sizes.length cs])), (4, (cond (S.getD 3 false) (some (.own (.slice AA2 ltr.length cc2) 30 2 ltr.length (flat2 ltr))) none)), (5, (cond (S.getD 5 false) (some (.row bb3 23 #[.int .i64 dbb, .int .i64 dbr])) (cond (S.getD 4 false) (some (.row bb3 23 #[.int .i64 0, .int .i64 0])) none)))] w) ?_ ?_ ?_
  · exact ⟨none, 0, 0, ((((((((((Fr.nil hF).co hF (i := 16) (by kernel_rfl)).co hF (i := 15) (by kernel_rfl)).co hF (i := 14) (by kernel_rfl)).co hF (i := 13) (by kernel_rfl)).co hF (i := 6) (by kernel_rfl)).co hF (i := 5) (by kernel_rfl)).co hF (i := 4) (by kernel_rfl)).co hF (i := 2) (by kernel_rfl)).co hF (i := 1) (by kernel_rfl)), hM.drew.sub (((((Sub.nil.co (k := 5) (by kernel_rfl)).co (k := 4) (by kernel_rfl)).co (k := 3) (by kernel_rfl)).co (k := 2) (by kernel_rfl)).co (k := 1) (by kernel_rfl))⟩
  · refine stC ?_ (stC ?_ (stC ?_ (stC ?_ (stC ?_ (stC ?_ (stC ?_ (trivial)))))))
    · intro s0 s1 s2 s3 s4 s5 s6 hc hi hp a w hS
      obtain rfl : s0 = false := hi
      obtain ⟨AA2, cc2, bb3, hF, hM⟩ := hS
      refine eL 13 3 0 (v := .agg #[.int .u32 bu, .int .u32 ra, .slice Ga gaps.length cg, .slice Sa sizes.length cs]) hF hM (by kernel_rfl) rfl rfl (by kernel_rfl) (by kernel_rfl) fun a w hF hM => ?_
      exact ⟨AA2, cc2, bb3, ((hF.repl 5 (by kernel_rfl)).cast (by kernel_rfl)), (hM.cast (by kernel_rfl))⟩
    · intro s0 s1 s2 s3 s4 s5 s6 hc hi hp a w hS
      obtain rfl : s1 = false := hi
      obtain rfl : s0 = true := hp 0 (by kernel_rfl)
      obtain ⟨AA2, cc2, bb3, hF, hM⟩ := hS
      refine eM 14 (v := .agg #[.int .i64 dbb, .int .i64 dbr]) hF hM (by kernel_rfl) (yld_call (f := 10) (args := #[.agg #[.int .u32 bu, .int .u32 ra, .slice Ga gaps.length cg, .slice Sa sizes.length cs]]) hF (by kernel_rfl) (fun _ => by kernel_rfl) (fun w hM => by rw [e_dbb, e_dbr]; exact draftBucket_w bu ra (.slice Ga gaps.length cg) (.slice Sa sizes.length cs) w (by omega))) fun a w hF hM => ?_
      exact ⟨AA2, cc2, bb3, ((hF.repl 6 (by kernel_rfl)).cast (by kernel_rfl)), (hM.cast (by kernel_rfl))⟩
    · intro s0 s1 s2 s3 s4 s5 s6 hc hi hp a w hS
      obtain rfl : s2 = false := hi
      obtain ⟨AA2, cc2, bb3, hF, hM⟩ := hS
      refine eL 15 3 0 (v := .agg #[.int .u32 bu, .int .u32 ra, .slice Ga gaps.length cg, .slice Sa sizes.length cs]) hF hM (by kernel_rfl) rfl rfl (by kernel_rfl) (by kernel_rfl) fun a w hF hM => ?_
      exact ⟨AA2, cc2, bb3, ((hF.repl 7 (by kernel_rfl)).cast (by kernel_rfl)), (hM.cast (by kernel_rfl))⟩
    · intro s0 s1 s2 s3 s4 s5 s6 hc hi hp a w hS
      obtain rfl : s3 = false := hi
      obtain rfl : s2 = true := hp 2 (by kernel_rfl)
      obtain rfl : s6 = false := hc.f 6 3 (by kernel_rfl) rfl
      obtain ⟨AA2, cc2, bb3, hF, hM⟩ := hS
      refine sOwn 4 (f := 17) (args := #[.agg #[.int .u32 bu, .int .u32 ra, .slice Ga gaps.length cg, .slice Sa sizes.length cs]]) (mk := fun v => v) (e := 30) (size := 2) (m := ltr.length) (xs := (flat2 ltr)) hF hM (by kernel_rfl) rfl (by decide) (by kernel_rfl) (fun _ => by kernel_rfl) (by rw [e_ltr]; exact draftTrace_w bu ra Ga gaps cg Sa sizes cs w (hM.ok 1 _ rfl) (hM.ok 2 _ rfl) hg hs (by omega) (by omega)) fun AA2 cc2 a w hF hM => ?_
      exact ⟨AA2, cc2, bb3, ((hF.repl 8 (by kernel_rfl)).cast (by kernel_rfl)), ((hM.repl 3 (by kernel_rfl)).cast (by kernel_rfl))⟩
    · intro s0 s1 s2 s3 s4 s5 s6 hc hi hp a w hS
      obtain rfl : s4 = false := hi
      obtain rfl : s5 = false := hc.f 5 4 (by kernel_rfl) rfl
      obtain ⟨AA2, cc2, bb3, hF, hM⟩ := hS
      refine eN 5 5 (t := 23) (fun b => .pointer (some ⟨b, 0, none⟩)) #[.int .i64 0, .int .i64 0] hF hM (by kernel_rfl) (fun _ => by kernel_rfl) fun bb3 a w hF hM => ?_
      exact ⟨AA2, cc2, bb3, ((hF.repl 3 (by kernel_rfl)).cast (by kernel_rfl)), ((hM.repl 4 (by kernel_rfl)).cast (by kernel_rfl))⟩
    · intro s0 s1 s2 s3 s4 s5 s6 hc hi hp a w hS
      obtain rfl : s5 = false := hi
      obtain rfl : s4 = true := hp 4 (by kernel_rfl)
      obtain rfl : s1 = true := hp 1 (by kernel_rfl)
      obtain ⟨AA2, cc2, bb3, hF, hM⟩ := hS
      refine sStore (i := 5) (off := 0) (cs' := #[.int .i64 dbb, .int .i64 dbr]) hF hM (by kernel_rfl) rfl rfl (by kernel_rfl) (by kernel_rfl) rfl (by kernel_rfl) fun w hM => ?_
      exact ⟨AA2, cc2, bb3, (hF.cast (by kernel_rfl)), ((hM.repl 4 (by kernel_rfl)).cast (by kernel_rfl))⟩
    · intro s0 s1 s2 s3 s4 s5 s6 hc hi hp a w hS
      obtain rfl : s6 = false := hi
      obtain rfl : s3 = true := hp 3 (by kernel_rfl)
      obtain ⟨AA2, cc2, bb3, hF, hM⟩ := hS
      refine eP 6 (v0 := .slice AA2 ltr.length cc2) (v := .slice AA2 ltr.length cc2) hF (by kernel_rfl) (fun _ => by kernel_rfl) rfl fun a hF => ?_
      exact ⟨AA2, cc2, bb3, ((hF.repl 4 (by kernel_rfl)).cast (by kernel_rfl)), (hM.cast (by kernel_rfl))⟩
  · intro a w hS
    obtain ⟨AA2, cc2, bb3, hF, hM⟩ := hS
    replace hF : Fr 82 [(1, some (.int .u16 mo)), (2, some (.pointer (some ⟨bb1, 0, none⟩))), (4, some (.bool false)), (5, some (.pointer (some ⟨bb3, 0, none⟩))), (6, some (.slice AA2 ltr.length cc2)), (13, some (.agg #[.int .u32 bu, .int .u32 ra, .slice Ga gaps.length cg, .slice Sa sizes.length cs])), (14, some (.agg #[.int .i64 dbb, .int .i64 dbr])), (15, some (.agg #[.int .u32 bu, .int .u32 ra, .slice Ga gaps.length cg, .slice Sa sizes.length cs])), (16, some (.slice AA2 ltr.length cc2))] a := hF.cast (by kernel_rfl)
    replace hM : Mem w0.heap.size w0 [(1, some (.ro Ga (gaps.map (Value.int .u16)))), (2, some (.ro Sa (sizes.map (Value.int .u16)))), (3, some (.row bb1 27 #[.int .u32 bu, .int .u32 ra, .slice Ga gaps.length cg, .slice Sa sizes.length cs])), (4, some (.own (.slice AA2 ltr.length cc2) 30 2 ltr.length (flat2 ltr))), (5, some (.row bb3 23 #[.int .i64 dbb, .int .i64 dbr]))] w := hM.cast (by kernel_rfl)
    refine hK4 _ _ ?_
    refine wp_seq_k fun K5 hK5 => ?_
    obtain ⟨rs, hrs⟩ : ∃ z : Int, z = min (dbr + mo) 2097152 := ⟨_, rfl⟩
    have hlf := least_facts (r := dbr) (s := rs) tr_ltr (by omega) (by omega)
    refine wp_region_lit ?_
    refine sB 1 [(18, .pointer (some ⟨bb3, 1, none⟩))] hF (by kernel_rfl) fun a hF => ?_
    refine wl (eL 19 5 1 (v := .int .i64 dbr) hF hM (by kernel_rfl) rfl rfl (by kernel_rfl) (by kernel_rfl) fun a w hF hM => ?_)
    refine sB 1 [(20, .slice AA2 ltr.length cc2)] hF (by kernel_rfl) fun a hF => ?_
    refine wl (eM 21 (v := .tuple #[.int .i64 (leV dbr ltr), .int .i64 (leE dbr ltr)]) hF hM (by kernel_rfl) (yld_call (f := 27) (args := #[.int .i64 dbr, .slice AA2 ltr.length cc2]) hF (by kernel_rfl) (fun _ => by kernel_rfl) (fun w hM => bLeast_w dbr AA2 ltr _ w (ro_of_own (hM.ok 4 _ rfl)))) fun a w hF hM => ?_)
    refine sB 5 [(17, .tuple #[.int .i64 (leV dbr ltr), .int .i64 (leE dbr ltr)]), (22, .int .i64 (leV dbr ltr)), (23, .int .i64 (leE dbr ltr)), (7, .int .i64 (leV dbr ltr)), (8, .int .i64 (leE dbr ltr))] hF (by kernel_rfl) fun a hF => ?_
    refine wpList_nil ?_
    refine hK5 _ _ ?_
    refine wp_seq_k fun K6 hK6 => ?_
    refine wp_region_lit ?_
    refine sB 1 [(25, .pointer (some ⟨bb3, 1, none⟩))] hF (by kernel_rfl) fun a hF => ?_
    refine wl (eL 26 5 1 (v := .int .i64 dbr) hF hM (by kernel_rfl) rfl rfl (by kernel_rfl) (by kernel_rfl) fun a w hF hM => ?_)
    refine sB 1 [(27, .int .u16 mo)] hF (by kernel_rfl) fun a hF => ?_
    refine wl (eP 28 (v0 := .int .i64 (IntKind.i64.wrap mo)) (v := .int .i64 mo) hF (by kernel_rfl) (fun _ => by kernel_rfl) (vi (IntWalk.i64_in _ (by omega))) fun a hF => ?_)
    refine wl (eP 29 (v0 := .int .i64 (IntKind.i64.wrap (dbr + mo))) (v := .int .i64 (dbr + mo)) hF (by kernel_rfl) (fun _ => by kernel_rfl) (wi (by omega)) fun a hF => ?_)
    refine wl (eP 30 (v0 := .int .i64 (if 2097152 < dbr + mo then 2097152 else dbr + mo)) (v := .int .i64 rs) hF (by kernel_rfl) (fun _ => by kernel_rfl) (vi (by rw [hrs]; exact (min_if _ _))) fun a hF => ?_)
    refine sB 1 [(31, .slice AA2 ltr.length cc2)] hF (by kernel_rfl) fun a hF => ?_
    refine wl (eM 32 (v := .tuple #[.int .i64 (leV rs ltr), .int .i64 (leE rs ltr)]) hF hM (by kernel_rfl) (yld_call (f := 27) (args := #[.int .i64 rs, .slice AA2 ltr.length cc2]) hF (by kernel_rfl) (fun _ => by kernel_rfl) (fun w hM => bLeast_w rs AA2 ltr _ w (ro_of_own (hM.ok 4 _ rfl)))) fun a w hF hM => ?_)
    refine sB 5 [(24, .tuple #[.int .i64 (leV rs ltr), .int .i64 (leE rs ltr)]), (33, .int .i64 (leV rs ltr)), (34, .int .i64 (leE rs ltr)), (9, .int .i64 (leV rs ltr)), (10, .int .i64 (leE rs ltr))] hF (by kernel_rfl) fun a hF => ?_
    refine wpList_nil ?_
    refine hK6 _ _ ?_
    refine wp_seq_k fun K7 hK7 => ?_
    refine wp_seq_k fun K8 hK8 => ?_
    refine wp_region_lit ?_
    refine sB 2 [(35, .int .i64 (leE dbr ltr)), (36, .bool (!decide (leE dbr ltr = 0)))] hF (by kernel_rfl) fun a hF => ?_
    refine wpList_nil ?_
    refine hK8 _ _ ?_
    by_cases hz1 : leE dbr ltr = 0
    · skip
      have hz2 := hlf.2.2 hz1
      have hz3 := hz2.1
      replace hF := hF.c hF (i := 36) (v := .bool false) rfl (nT hz1)
      refine cF hF (by kernel_rfl) (by kernel_rfl) ?_
      refine wp_skip ?_
      refine hK7 _ _ ?_
      refine wp_seq_k fun K9 hK9 => ?_
      refine wp_seq_k fun K10 hK10 => ?_
      refine wp_region_lit ?_
      refine sB 1 [(44, .int .i64 (leE rs ltr))] hF (by kernel_rfl) fun a hF => ?_
      refine wl (eP 45 (v0 := .bool (!decide (leE rs ltr = 0))) (v := .bool false) hF (by kernel_rfl) (fun _ => by kernel_rfl) (nT hz2.1) fun a hF => ?_)
      refine sB 3 [(46, .bool false), (47, .int .i64 (leV rs ltr)), (48, .int .i64 (leV dbr ltr))] hF (by kernel_rfl) fun a hF => ?_
      refine wl (eP 49 (v0 := .bool (decide (leV dbr ltr < leV rs ltr))) (v := .bool false) hF (by kernel_rfl) (fun _ => by kernel_rfl) (bF (by omega)) fun a hF => ?_)
      refine sB 3 [(50, .bool false), (51, .bool false), (52, .int .i64 (leV rs ltr))] hF (by kernel_rfl) fun a hF => ?_
      refine wl (eP 53 (v0 := .bool (decide (leV rs ltr < 1))) (v := .bool false) hF (by kernel_rfl) (fun _ => by kernel_rfl) (bF (by omega)) fun a hF => ?_)
      refine sB 1 [(54, .bool false)] hF (by kernel_rfl) fun a hF => ?_
      refine wpList_nil ?_
      refine hK10 _ _ ?_
      refine cF hF (by kernel_rfl) (by kernel_rfl) ?_
      refine wp_skip ?_
      refine hK9 _ _ ?_
      refine wp_seq_k fun K11 hK11 => ?_
      refine wp_region_lit ?_
      refine sB 2 [(55, .int .i64 (leV dbr ltr)), (56, .pointer (some ⟨bb3, 0, none⟩))] hF (by kernel_rfl) fun a hF => ?_
      refine wl (sStore (i := 5) (off := 0) (cs' := #[.int .i64 (leV dbr ltr), .int .i64 dbr]) hF hM (by kernel_rfl) rfl rfl (by kernel_rfl) (by kernel_rfl) rfl (by kernel_rfl) fun w hM => ?_)
      refine wpList_nil ?_
      refine hK11 _ _ ?_
      refine wp_seq_k fun K12 hK12 => ?_
      refine wp_seq_k fun K13 hK13 => ?_
      have hc1 : ckE (leV dbr ltr) dbr ltr = 0 ∧ cfB (leV dbr ltr) dbr ltr = true := by have q := cf_fit (b := leV dbr ltr) (r := dbr) tr_ltr (by omega) (by omega); exact ⟨q.1, by rw [q.2]; exact decide_eq_true (by omega)⟩
      refine wp_region_lit ?_
      refine wl (eL 57 5 0 (v := .agg #[.int .i64 (leV dbr ltr), .int .i64 dbr]) hF hM (by kernel_rfl) rfl rfl (by kernel_rfl) (by kernel_rfl) fun a w hF hM => ?_)
      refine sB 1 [(58, .slice AA2 ltr.length cc2)] hF (by kernel_rfl) fun a hF => ?_
      refine wl (eM 59 (v := .bool true) hF hM (by kernel_rfl) (Yld.to (yld_call (f := 30) (args := #[.agg #[.int .i64 (leV dbr ltr), .int .i64 dbr], .slice AA2 ltr.length cc2]) hF (by kernel_rfl) (fun _ => by kernel_rfl) (fun w hM => fits3_w (leV dbr ltr) dbr AA2 ltr _ w (ro_of_own (hM.ok 4 _ rfl)))) (congrArg Value.bool hc1.2)) fun a w hF hM => ?_)
      refine sB 1 [(60, .bool false)] hF (by kernel_rfl) fun a hF => ?_
      refine wpList_nil ?_
      refine hK13 _ _ ?_
      refine cF hF (by kernel_rfl) (by kernel_rfl) ?_
      refine wp_skip ?_
      refine hK12 _ _ ?_
      refine wp_seq_k fun K14 hK14 => ?_
      refine wp_region_lit ?_
      refine sB 2 [(61, .int .i64 (leV dbr ltr)), (62, .int .u16 mo)] hF (by kernel_rfl) fun a hF => ?_
      refine wl (eP 63 (v0 := .int .i64 (IntKind.i64.wrap mo)) (v := .int .i64 mo) hF (by kernel_rfl) (fun _ => by kernel_rfl) (vi (IntWalk.i64_in _ (by omega))) fun a hF => ?_)
      refine wl (eP 64 (v0 := .int .i64 (IntKind.i64.wrap (leV dbr ltr + mo))) (v := .int .i64 (leV dbr ltr + mo)) hF (by kernel_rfl) (fun _ => by kernel_rfl) (wi (by omega)) fun a hF => ?_)
      refine wl (eP 65 (v0 := .int .i64 (if 1048576 < leV dbr ltr + mo then 1048576 else leV dbr ltr + mo)) (v := .int .i64 (min (leV dbr ltr + mo) 1048576)) hF (by kernel_rfl) (fun _ => by kernel_rfl) (vi (min_if _ _)) fun a hF => ?_)
      refine sB 1 [(66, .pointer (some ⟨bb3, 0, none⟩))] hF (by kernel_rfl) fun a hF => ?_
      refine wl (sStore (i := 5) (off := 0) (cs' := #[.int .i64 (min (leV dbr ltr + mo) 1048576), .int .i64 dbr]) hF hM (by kernel_rfl) rfl rfl (by kernel_rfl) (by kernel_rfl) rfl (by kernel_rfl) fun w hM => ?_)
      refine wpList_nil ?_
      refine hK14 _ _ ?_
      refine wp_seq_k fun K15 hK15 => ?_
      refine wp_seq_k fun K16 hK16 => ?_
      have hc2 : ckE (min (leV dbr ltr + mo) 1048576) dbr ltr = 0 ∧ cfB (min (leV dbr ltr + mo) 1048576) dbr ltr = true := by have q := cf_fit (b := min (leV dbr ltr + mo) 1048576) (r := dbr) tr_ltr (by omega) (by omega); exact ⟨q.1, by rw [q.2]; exact decide_eq_true (by omega)⟩
      refine wp_region_lit ?_
      refine wl (eL 67 5 0 (v := .agg #[.int .i64 (min (leV dbr ltr + mo) 1048576), .int .i64 dbr]) hF hM (by kernel_rfl) rfl rfl (by kernel_rfl) (by kernel_rfl) fun a w hF hM => ?_)
      refine sB 1 [(68, .slice AA2 ltr.length cc2)] hF (by kernel_rfl) fun a hF => ?_
      refine wl (eM 69 (v := .bool true) hF hM (by kernel_rfl) (Yld.to (yld_call (f := 30) (args := #[.agg #[.int .i64 (min (leV dbr ltr + mo) 1048576), .int .i64 dbr], .slice AA2 ltr.length cc2]) hF (by kernel_rfl) (fun _ => by kernel_rfl) (fun w hM => fits3_w (min (leV dbr ltr + mo) 1048576) dbr AA2 ltr _ w (ro_of_own (hM.ok 4 _ rfl)))) (congrArg Value.bool hc2.2)) fun a w hF hM => ?_)
      refine sB 1 [(70, .bool false)] hF (by kernel_rfl) fun a hF => ?_
      refine wpList_nil ?_
      refine hK16 _ _ ?_
      refine cF hF (by kernel_rfl) (by kernel_rfl) ?_
      refine wp_skip ?_
      refine hK15 _ _ ?_
      refine wp_seq_k fun K17 hK17 => ?_
      refine wp_region_lit ?_
      refine sB 1 [(71, .int .i64 (leV dbr ltr))] hF (by kernel_rfl) fun a hF => ?_
      refine wl (eP 72 (v0 := .int .i64 (IntKind.i64.wrap (leV dbr ltr - 1))) (v := .int .i64 (leV dbr ltr - 1)) hF (by kernel_rfl) (fun _ => by kernel_rfl) (wi (by omega)) fun a hF => ?_)
      refine sB 1 [(73, .pointer (some ⟨bb3, 0, none⟩))] hF (by kernel_rfl) fun a hF => ?_
      refine wl (sStore (i := 5) (off := 0) (cs' := #[.int .i64 (leV dbr ltr - 1), .int .i64 dbr]) hF hM (by kernel_rfl) rfl rfl (by kernel_rfl) (by kernel_rfl) rfl (by kernel_rfl) fun w hM => ?_)
      refine wpList_nil ?_
      refine hK17 _ _ ?_
      refine wp_seq_k fun K18 hK18 => ?_
      by_cases hz4 : leV dbr ltr = 1
      · skip
        refine wp_region_lit ?_
        refine sB 1 [(74, .int .i64 (leV dbr ltr))] hF (by kernel_rfl) fun a hF => ?_
        refine wl (eP 75 (v0 := .bool (decide (leV dbr ltr = 1))) (v := .bool true) hF (by kernel_rfl) (fun _ => by kernel_rfl) (bT hz4) fun a hF => ?_)
        refine sB 7 [(76, .bool true), (77, undef), (78, undef), (79, undef), (80, undef), (81, .bool true), (4, .bool true)] hF (by kernel_rfl) fun a hF => ?_
        refine wpList_nil ?_
        refine hK18 _ _ ?_
        refine wp_ret ?_
        refine hR0 _ _ ?_
        refine ret_of hF hM (.tmp rfl (.nil)) ?_
        exact ⟨rfl, hM.bel⟩
      · skip
        have hc3 : ckE (leV dbr ltr - 1) dbr ltr = 0 ∧ cfB (leV dbr ltr - 1) dbr ltr = false := by have q := cf_fit (b := leV dbr ltr - 1) (r := dbr) tr_ltr (by omega) (by omega); exact ⟨q.1, by rw [q.2]; exact decide_eq_false (by omega)⟩
        refine wp_region_lit ?_
        refine sB 1 [(74, .int .i64 (leV dbr ltr))] hF (by kernel_rfl) fun a hF => ?_
        refine wl (eP 75 (v0 := .bool (decide (leV dbr ltr = 1))) (v := .bool false) hF (by kernel_rfl) (fun _ => by kernel_rfl) (bF hz4) fun a hF => ?_)
        refine sB 1 [(76, .bool false)] hF (by kernel_rfl) fun a hF => ?_
        refine wl (eL 77 5 0 (v := .agg #[.int .i64 (leV dbr ltr - 1), .int .i64 dbr]) hF hM (by kernel_rfl) rfl rfl (by kernel_rfl) (by kernel_rfl) fun a w hF hM => ?_)
        refine sB 1 [(78, .slice AA2 ltr.length cc2)] hF (by kernel_rfl) fun a hF => ?_
        refine wl (eM 79 (v := .bool false) hF hM (by kernel_rfl) (Yld.to (yld_call (f := 30) (args := #[.agg #[.int .i64 (leV dbr ltr - 1), .int .i64 dbr], .slice AA2 ltr.length cc2]) hF (by kernel_rfl) (fun _ => by kernel_rfl) (fun w hM => fits3_w (leV dbr ltr - 1) dbr AA2 ltr _ w (ro_of_own (hM.ok 4 _ rfl)))) (congrArg Value.bool hc3.2)) fun a w hF hM => ?_)
        refine sB 3 [(80, .bool true), (81, .bool true), (4, .bool true)] hF (by kernel_rfl) fun a hF => ?_
        refine wpList_nil ?_
        refine hK18 _ _ ?_
        refine wp_ret ?_
        refine hR0 _ _ ?_
        refine ret_of hF hM (.tmp rfl (.nil)) ?_
        exact ⟨rfl, hM.bel⟩
    · skip
      have hz5 := (by omega : leE dbr ltr = 6)
      replace hF := hF.c hF (i := 36) (v := .bool true) rfl (nF hz1)
      refine cT hF (by kernel_rfl) (by kernel_rfl) ?_
      refine wp_seq_k fun K19 hK19 => ?_
      have hlp := hlf.2.1 (by omega)
      refine wp_region_lit ?_
      refine sB 1 [(37, .int .i64 (leE dbr ltr))] hF (by kernel_rfl) fun a hF => ?_
      refine wl (eP 38 (v0 := .bool (decide (leE dbr ltr = 6))) (v := .bool true) hF (by kernel_rfl) (fun _ => by kernel_rfl) (bT (by omega)) fun a hF => ?_)
      refine sB 3 [(39, .bool true), (40, .slice AA2 ltr.length cc2), (41, .int .i64 (ltr.length : Int))] hF (by kernel_rfl) fun a hF => ?_
      refine wl (eP 42 (v0 := .bool (decide (0 < (ltr.length : Int)))) (v := .bool true) hF (by kernel_rfl) (fun _ => by kernel_rfl) (bT (by omega)) fun a hF => ?_)
      refine sB 2 [(43, .bool true), (4, .bool true)] hF (by kernel_rfl) fun a hF => ?_
      refine wpList_nil ?_
      refine hK19 _ _ ?_
      refine wp_ret ?_
      refine hR0 _ _ ?_
      refine ret_of hF hM (.tmp rfl (.nil)) ?_
      exact ⟨rfl, hM.bel⟩

end Go.Proofs.Ytecofcjlokfkhaa
