/-
  The walk of ShapeRuns.
-/
import Derived.Test.YtaekcgapbkmepaaShapeE
namespace Go.Proofs.Ytaekcgapbkmepaa
open Go.RowKit
set_option linter.unusedVariables false
set_option linter.unusedSimpArgs false

set_option maxRecDepth 100000 in
set_option maxHeartbeats 8000000 in
theorem shapeRuns_walk (b0 b1 : Int) (A : Option Addr) (l : List (Int × Int)) (c : Nat) (bu ra : Int) (Ga : Option Addr) (gaps : List Int) (cg : Nat) (Sa : Option Addr) (sizes : List Int) (cs : Nat) (w0 : World) (hA : Ro w0 A (flat2 l)) (hlc : l.length ≤ c) (hc : c ≤ 9223372036854775807) (hGa : Ro w0 Ga (gaps.map (Value.int .u16))) (hSa : Ro w0 Sa (sizes.map (Value.int .u16))) (hg : All16 gaps) (hs : All16 sizes) (hmg : gaps.length ≤ 9223372036854775807) (hms : sizes.length ≤ 9223372036854775807) (h : 0 ≤ bu ∧ bu < 4294967296 ∧ 0 ≤ ra ∧ ra < 4294967296) :
    Calls Try.prog 4 #[.agg #[.int .i64 b0, .int .i64 b1], .slice A l.length c, .agg #[.int .u32 bu, .int .u32 ra, .slice Ga gaps.length cg, .slice Sa sizes.length cs]] w0 (Ret w0 (.bool true)) := by
  refine enterK 70 Try.func4 rfl rfl rfl ?_
  intro a hF Q0 hR0 hN0
  have hM := Mem.start w0
  replace hM := hM.addOld 1 hGa (Nat.le_refl _)
  replace hM := hM.addOld 2 hSa (Nat.le_refl _)
  replace hM := hM.addOld 3 hA (Nat.le_refl _)
  refine wp_seq_k fun K1 hK1 => ?_
  refine wp_region_lit ?_
  refine wl (eN 3 4 (t := 23) (fun b => .pointer (some ⟨b, 0, none⟩)) #[.int .i64 b0, .int .i64 b1] hF hM (by kernel_rfl) (fun _ => by kernel_rfl) fun bb1 a w hF hM => ?_)
  refine wl (eN 5 5 (t := 27) (fun b => .pointer (some ⟨b, 0, none⟩)) #[.int .u32 bu, .int .u32 ra, .slice Ga gaps.length cg, .slice Sa sizes.length cs] hF hM (by kernel_rfl) (fun _ => by kernel_rfl) fun bb2 a w hF hM => ?_)
  refine sB 1 [(6, .bool false)] hF (by kernel_rfl) fun a hF => ?_
  refine wpList_nil ?_
  refine hK1 _ _ ?_
  refine wp_seq_k fun K2 hK2 => ?_
  refine wp_region_lit ?_
  refine sB 3 [(17, .slice A l.length c), (18, .slice A l.length c), (19, .int .i64 (l.length : Int))] hF (by kernel_rfl) fun a hF => ?_
  refine wl (eP 20 (v0 := .int .i64 (if 40 < (l.length : Int) then 40 else (l.length : Int))) (v := .int .i64 (min (l.length : Int) 40)) hF (by kernel_rfl) (fun _ => by kernel_rfl) (vi (min_if _ _)) fun a hF => ?_)
  obtain ⟨lsl, e_lsl⟩ : ∃ x : List (Int × Int), x = l.take ((min (l.length : Int) 40).toNat) := ⟨_, rfl⟩
  have len_lsl : (lsl.length : Int) = min (l.length : Int) 40 := by rw [e_lsl, List.length_take]; omega
  replace hM := hM.roMore 6 3 (xs' := (flat2 lsl)) rfl (by rw [e_lsl]; exact flat2_sub _ _)
  refine wl (eM 21 (v := .slice A lsl.length c) hF hM (by kernel_rfl) (yld_slice0 (e := 31) (len := l.length) (cap := c) (m := lsl.length) (A := A) (i := min (l.length : Int) 40) hF rfl (by kernel_rfl) (by kernel_rfl) (by kernel_rfl) (by kernel_rfl) (by kernel_rfl) (by omega) (by omega)) fun a w hF hM => ?_)
  refine sB 1 [(1, .slice A lsl.length c)] hF (by kernel_rfl) fun a hF => ?_
  refine wpList_nil ?_
  refine hK2 _ _ ?_
  refine wp_seq_k fun K3 hK3 => ?_
  refine wp_region_lit ?_
  refine wl (eL 22 5 0 (v := .agg #[.int .u32 bu, .int .u32 ra, .slice Ga gaps.length cg, .slice Sa sizes.length cs]) hF hM (by kernel_rfl) rfl rfl (by kernel_rfl) (by kernel_rfl) fun a w hF hM => ?_)
  obtain ⟨dbb, e_dbb⟩ : ∃ x : Int, x = 1 + bu % 1048576 := ⟨_, rfl⟩
  obtain ⟨dbr, e_dbr⟩ : ∃ x : Int, x = 1 + ra % 2097152 := ⟨_, rfl⟩
  have hdb : bkE dbb dbr = 0 := by unfold bkE; omega
  have := bkE_ok hdb
  refine wl (eM 23 (v := .agg #[.int .i64 dbb, .int .i64 dbr]) hF hM (by kernel_rfl) (yld_call (f := 9) (args := #[.agg #[.int .u32 bu, .int .u32 ra, .slice Ga gaps.length cg, .slice Sa sizes.length cs]]) hF (by kernel_rfl) (fun _ => by kernel_rfl) (fun w hM => by rw [e_dbb, e_dbr]; exact draftBucket_w bu ra (.slice Ga gaps.length cg) (.slice Sa sizes.length cs) w (by omega))) fun a w hF hM => ?_)
  refine wl (eN 7 7 (t := 23) (fun b => .pointer (some ⟨b, 0, none⟩)) #[.int .i64 0, .int .i64 0] hF hM (by kernel_rfl) (fun _ => by kernel_rfl) fun bb3 a w hF hM => ?_)
  refine wl (sStore (i := 7) (off := 0) (cs' := #[.int .i64 dbb, .int .i64 dbr]) hF hM (by kernel_rfl) rfl rfl (by kernel_rfl) (by kernel_rfl) rfl (by kernel_rfl) fun w hM => ?_)
  refine wpList_nil ?_
  refine hK3 _ _ ?_
  refine wp_seq_k fun K4 hK4 => ?_
  obtain ⟨fbw, hfbw⟩ : ∃ z : Int, z = max dbb 65536 := ⟨_, rfl⟩
  refine wp_region_lit ?_
  refine sB 1 [(24, .pointer (some ⟨bb3, 0, none⟩))] hF (by kernel_rfl) fun a hF => ?_
  refine wl (eL 25 7 0 (v := .int .i64 dbb) hF hM (by kernel_rfl) rfl rfl (by kernel_rfl) (by kernel_rfl) fun a w hF hM => ?_)
  refine wl (eP 26 (v0 := .int .i64 (if 65536 > dbb then 65536 else dbb)) (v := .int .i64 fbw) hF (by kernel_rfl) (fun _ => by kernel_rfl) (vi (by rw [hfbw]; exact (max_if _ _))) fun a hF => ?_)
  refine sB 1 [(27, .pointer (some ⟨bb3, 1, none⟩))] hF (by kernel_rfl) fun a hF => ?_
  refine wl (eL 28 7 1 (v := .int .i64 dbr) hF hM (by kernel_rfl) rfl rfl (by kernel_rfl) (by kernel_rfl) fun a w hF hM => ?_)
  refine sB 1 [(29, .agg #[.int .i64 fbw, .int .i64 dbr])] hF (by kernel_rfl) fun a hF => ?_
  refine wl (eN 8 8 (t := 23) (fun b => .pointer (some ⟨b, 0, none⟩)) #[.int .i64 0, .int .i64 0] hF hM (by kernel_rfl) (fun _ => by kernel_rfl) fun bb4 a w hF hM => ?_)
  refine wl (sStore (i := 8) (off := 0) (cs' := #[.int .i64 fbw, .int .i64 dbr]) hF hM (by kernel_rfl) rfl rfl (by kernel_rfl) (by kernel_rfl) rfl (by kernel_rfl) fun w hM => ?_)
  refine wpList_nil ?_
  refine hK4 _ _ ?_
  refine wp_seq_k fun K5 hK5 => ?_
  refine wp_seq_k fun K6 hK6 => ?_
  refine wp_region_lit ?_
  refine wl (eL 30 4 0 (v := .agg #[.int .i64 b0, .int .i64 b1]) hF hM (by kernel_rfl) rfl rfl (by kernel_rfl) (by kernel_rfl) fun a w hF hM => ?_)
  refine wl (eL 31 7 0 (v := .agg #[.int .i64 dbb, .int .i64 dbr]) hF hM (by kernel_rfl) rfl rfl (by kernel_rfl) (by kernel_rfl) fun a w hF hM => ?_)
  refine wl (eL 32 8 0 (v := .agg #[.int .i64 fbw, .int .i64 dbr]) hF hM (by kernel_rfl) rfl rfl (by kernel_rfl) (by kernel_rfl) fun a w hF hM => ?_)
  refine sB 2 [(33, .agg #[.int .i64 b0, .int .i64 b1, .int .i64 dbb, .int .i64 dbr, .int .i64 fbw, .int .i64 dbr]), (34, .int .i64 0)] hF (by kernel_rfl) fun a hF => ?_
  refine wpList_nil ?_
  refine hK6 _ _ ?_
  refine wp_block ?_
  refine wp_loop_k (G := Nat) (fun gg a w => Fr 70 [(34, some (.int .i64 (gg : Int))), (1, some (.slice A lsl.length c)), (5, some (.pointer (some ⟨bb2, 0, none⟩))), (33, some (.agg #[.int .i64 b0, .int .i64 b1, .int .i64 dbb, .int .i64 dbr, .int .i64 fbw, .int .i64 dbr]))] a ∧ Mem w0.heap.size w0 [(1, some (.ro Ga (gaps.map (Value.int .u16)))), (2, some (.ro Sa (sizes.map (Value.int .u16)))), (3, some (.ro A (flat2 l))), (5, some (.row bb2 27 #[.int .u32 bu, .int .u32 ra, .slice Ga gaps.length cg, .slice Sa sizes.length cs])), (6, some (.ro A (flat2 lsl)))] w ∧ ((gg : Int) ≤ 3)) (fun gg => 3 - gg) (0) ?_ ?_
  · refine ⟨(((((Fr.nil hF).c hF (i := 33) rfl rfl).c hF (i := 5) rfl rfl).c hF (i := 1) rfl rfl).c hF (i := 34) rfl (vi (show (0 : Int) = (0 : Int) from by omega))), (hM.sub (((((Sub.nil.c (k := 6) rfl rfl).c (k := 5) rfl rfl).c (k := 3) rfl rfl).c (k := 2) rfl rfl).c (k := 1) rfl rfl)), (show (0 : Int) ≤ 3 from by omega)⟩
  · intro gg a w hI
    intro K7 hK7
    obtain ⟨k34, rfl⟩ : ∃ x, x = gg := ⟨_, rfl⟩
    try dsimp only at hI hK7
    obtain ⟨hF, hM, hz1⟩ := hI
    refine wp_seq_k fun K8 hK8 => ?_
    refine wp_region_lit ?_
    refine sB 1 [(35, .bool (decide ((k34 : Int) < 3)))] hF (by kernel_rfl) fun a hF => ?_
    refine wpList_nil ?_
    refine hK8 _ _ ?_
    refine wp_seq_k fun K9 hK9 => ?_
    by_cases hz2 : (k34 : Int) < 3
    · skip
      replace hF := hF.c hF (i := 35) (v := .bool true) rfl (bT hz2)
      refine cT hF (by kernel_rfl) (by kernel_rfl) ?_
      refine wp_skip ?_
      refine hK9 _ _ ?_
      refine wp_seq_k fun K10 hK10 => ?_
      refine wp_block ?_
      refine wp_seq_k fun K11 hK11 => ?_
      refine wp_region_lit ?_
      obtain ⟨ys2, hl2, hm2, hy2⟩ := idx_agg (P := Try.prog) (t := 34) (e := 23) (len := 3) (m := 2) (kd := .i64) [b0, b1, dbb, dbr, fbw, dbr] ((k34 : Int)) (by kernel_rfl) (by kernel_rfl) (by omega) rfl
      obtain ⟨y2_0, y2_1, rfl⟩ := len2 hl2
      refine wl (eM 36 (v := .agg #[.int .i64 y2_0, .int .i64 y2_1]) hF hM (by kernel_rfl) (yld_index (X := .agg #[.int .i64 b0, .int .i64 b1, .int .i64 dbb, .int .i64 dbr, .int .i64 fbw, .int .i64 dbr]) (I := .int .i64 ((k34 : Int))) hF rfl (by kernel_rfl) (by kernel_rfl) (by kernel_rfl) (fun w => hy2 w)) fun a w hF hM => ?_)
      refine wl (eN 10 9 (t := 23) (fun b => .pointer (some ⟨b, 0, none⟩)) #[.int .i64 0, .int .i64 0] hF hM (by kernel_rfl) (fun _ => by kernel_rfl) fun bb5 a w hF hM => ?_)
      refine wl (sStore (i := 9) (off := 0) (cs' := #[.int .i64 y2_0, .int .i64 y2_1]) hF hM (by kernel_rfl) rfl rfl (by kernel_rfl) (by kernel_rfl) rfl (by kernel_rfl) fun w hM => ?_)
      refine wpList_nil ?_
      refine hK11 _ _ ?_
      refine wp_seq_k fun K12 hK12 => ?_
      obtain ⟨ltr, e_ltr⟩ : ∃ x : List (Int × Int), x = drTrace gaps sizes := ⟨_, rfl⟩
      have tr_ltr : trE ltr = 0 := by rw [e_ltr]; exact dr_trE hg hs
      have le_ltr : ltr.length ≤ 30 := by rw [e_ltr]; exact dr_le _ _
      obtain ⟨lcf, e_lcf⟩ : ∃ x : List (Int × Int), x = cfDr bu ra gaps sizes := ⟨_, rfl⟩
      have cf_lcf : cfB (1 + bu % 1048576) (1 + ra % 2097152) lcf = true := by rw [e_lcf]; exact cfTr_cf (by unfold bkE; omega) (dr_trE hg hs)
      have tr_lcf : trE lcf = 0 := ckE_tr (cf_iff.1 cf_lcf).1
      have le_lcf : lcf.length ≤ 30 := by rw [e_lcf]; exact Nat.le_trans (cfTr_le (by unfold bkE; omega) (dr_trE hg hs)) (dr_le _ _)
      have pr_lcf : ∀ k, k < lcf.length → 0 ≤ (pr lcf k).1 ∧ (pr lcf k).1 ≤ 1966050 ∧ 1 ≤ (pr lcf k).2 ∧ (pr lcf k).2 ≤ 65536 := by rw [e_lcf]; exact fun k hk => cfTr_pr (p := fun x => 0 ≤ x.1 ∧ x.1 ≤ 1966050 ∧ 1 ≤ x.2 ∧ x.2 ≤ 65536) (by unfold bkE; omega) (dr_trE hg hs) (fun j hj => dr_pr hg hs hj) hk
      refine rF (by kernel_rfl) (by kernel_rfl) (fun S a w => ∃ AA6 : Option Addr, ∃ cc6 : Nat, ∃ AA7 : Option Addr, ∃ cc7 : Nat, Fr 70 [(1, some (.slice A lsl.length c)), (5, some (.pointer (some ⟨bb2, 0, none⟩))), (10, some (.pointer (some ⟨bb5, 0, none⟩))), (33, some (.agg #[.int .i64 b0, .int .i64 b1, .int .i64 dbb, .int .i64 dbr, .int .i64 fbw, .int .i64 dbr])), (34, some (.int .i64 (k34 : Int))), (37, (cond (S.getD 0 false) (some (.slice A lsl.length c)) none)), (38, (cond (S.getD 1 false) (some (.agg #[.int .u32 bu, .int .u32 ra, .slice Ga gaps.length cg, .slice Sa sizes.length cs])) none)), (39, (cond (S.getD 2 false) (some (.slice AA6 ltr.length cc6)) none)), (40, (cond (S.getD 3 false) (some (.agg #[.int .u32 bu, .int .u32 ra, .slice Ga gaps.length cg, .slice Sa sizes.length cs])) none)), (41, (cond (S.getD 4 false) (some (.slice AA7 lcf.length cc7)) none)), (42, (cond (S.getD 5 false) (some (.agg #[.slice A lsl.length c, .slice AA6 ltr.length cc6, .slice AA7 lcf.length cc7])) none)), (43, (cond (S.getD 6 false) (some (.int .i64 0)) none))] a ∧ Mem w0.heap.size w0 [(1, some (.ro Ga (gaps.map (Value.int .u16)))), (2, some (.ro Sa (sizes.map (Value.int .u16)))), (3, some (.ro A (flat2 l))), (5, some (.row bb2 27 #[.int .u32 bu, .int .u32 ra, .slice Ga gaps.length cg, .slice Sa sizes.length cs])), (6, some (.ro A (flat2 lsl))), (9, some (.row bb5 23 #[.int .i64 y2_0, .int .i64 y2_1])), (10, (cond (S.getD 2 false) (some (.own (.slice AA6 ltr.length cc6) 31 2 ltr.length (flat2 ltr))) none)), (11, (cond (S.getD 4 false) (some (.own (.slice AA7 lcf.length cc7) 31 2 lcf.length (flat2 lcf))) none))] w) ?_ ?_ ?_
      · exact ⟨none, 0, none, 0, (((((((((((((Fr.nil hF).co hF (i := 43) (by kernel_rfl)).co hF (i := 42) (by kernel_rfl)).co hF (i := 41) (by kernel_rfl)).co hF (i := 40) (by kernel_rfl)).co hF (i := 39) (by kernel_rfl)).co hF (i := 38) (by kernel_rfl)).co hF (i := 37) (by kernel_rfl)).co hF (i := 34) (by kernel_rfl)).co hF (i := 33) (by kernel_rfl)).co hF (i := 10) (by kernel_rfl)).co hF (i := 5) (by kernel_rfl)).co hF (i := 1) (by kernel_rfl)), hM.drew.sub ((((((((Sub.nil.co (k := 11) (by kernel_rfl)).co (k := 10) (by kernel_rfl)).co (k := 9) (by kernel_rfl)).co (k := 6) (by kernel_rfl)).co (k := 5) (by kernel_rfl)).co (k := 3) (by kernel_rfl)).co (k := 2) (by kernel_rfl)).co (k := 1) (by kernel_rfl))⟩
      · refine stC ?_ (stC ?_ (stC ?_ (stC ?_ (stC ?_ (stC ?_ (stC ?_ (trivial)))))))
        · intro s0 s1 s2 s3 s4 s5 s6 hc hi hp a w hS
          obtain rfl : s0 = false := hi
          obtain ⟨AA6, cc6, AA7, cc7, hF, hM⟩ := hS
          refine eP 37 (v0 := .slice A lsl.length c) (v := .slice A lsl.length c) hF (by kernel_rfl) (fun _ => by kernel_rfl) rfl fun a hF => ?_
          exact ⟨AA6, cc6, AA7, cc7, ((hF.repl 5 (by kernel_rfl)).cast (by kernel_rfl)), (hM.cast (by kernel_rfl))⟩
        · intro s0 s1 s2 s3 s4 s5 s6 hc hi hp a w hS
          obtain rfl : s1 = false := hi
          obtain ⟨AA6, cc6, AA7, cc7, hF, hM⟩ := hS
          refine eL 38 5 0 (v := .agg #[.int .u32 bu, .int .u32 ra, .slice Ga gaps.length cg, .slice Sa sizes.length cs]) hF hM (by kernel_rfl) rfl rfl (by kernel_rfl) (by kernel_rfl) fun a w hF hM => ?_
          exact ⟨AA6, cc6, AA7, cc7, ((hF.repl 6 (by kernel_rfl)).cast (by kernel_rfl)), (hM.cast (by kernel_rfl))⟩
        · intro s0 s1 s2 s3 s4 s5 s6 hc hi hp a w hS
          obtain rfl : s2 = false := hi
          obtain rfl : s1 = true := hp 1 (by kernel_rfl)
          obtain rfl : s5 = false := hc.f 5 2 (by kernel_rfl) rfl
          obtain ⟨AA6, cc6, AA7, cc7, hF, hM⟩ := hS
          refine sOwn 10 (f := 17) (args := #[.agg #[.int .u32 bu, .int .u32 ra, .slice Ga gaps.length cg, .slice Sa sizes.length cs]]) (mk := fun v => v) (e := 31) (size := 2) (m := ltr.length) (xs := (flat2 ltr)) hF hM (by kernel_rfl) rfl (by decide) (by kernel_rfl) (fun _ => by kernel_rfl) (by rw [e_ltr]; exact draftTrace_w bu ra Ga gaps cg Sa sizes cs w (hM.ok 1 _ rfl) (hM.ok 2 _ rfl) hg hs (by omega) (by omega)) fun AA6 cc6 a w hF hM => ?_
          exact ⟨AA6, cc6, AA7, cc7, ((hF.repl 7 (by kernel_rfl)).cast (by kernel_rfl)), ((hM.repl 6 (by kernel_rfl)).cast (by kernel_rfl))⟩
        · intro s0 s1 s2 s3 s4 s5 s6 hc hi hp a w hS
          obtain rfl : s3 = false := hi
          obtain ⟨AA6, cc6, AA7, cc7, hF, hM⟩ := hS
          refine eL 40 5 0 (v := .agg #[.int .u32 bu, .int .u32 ra, .slice Ga gaps.length cg, .slice Sa sizes.length cs]) hF hM (by kernel_rfl) rfl rfl (by kernel_rfl) (by kernel_rfl) fun a w hF hM => ?_
          exact ⟨AA6, cc6, AA7, cc7, ((hF.repl 8 (by kernel_rfl)).cast (by kernel_rfl)), (hM.cast (by kernel_rfl))⟩
        · intro s0 s1 s2 s3 s4 s5 s6 hc hi hp a w hS
          obtain rfl : s4 = false := hi
          obtain rfl : s3 = true := hp 3 (by kernel_rfl)
          obtain rfl : s5 = false := hc.f 5 4 (by kernel_rfl) rfl
          obtain ⟨AA6, cc6, AA7, cc7, hF, hM⟩ := hS
          refine sOwn 11 (f := 18) (args := #[.agg #[.int .u32 bu, .int .u32 ra, .slice Ga gaps.length cg, .slice Sa sizes.length cs]]) (mk := fun v => v) (e := 31) (size := 2) (m := lcf.length) (xs := (flat2 lcf)) hF hM (by kernel_rfl) rfl (by decide) (by kernel_rfl) (fun _ => by kernel_rfl) (by rw [e_lcf]; exact conforming_w bu ra Ga gaps cg Sa sizes cs w (hM.ok 1 _ rfl) (hM.ok 2 _ rfl) hg hs (by omega) (by omega) (by omega)) fun AA7 cc7 a w hF hM => ?_
          exact ⟨AA6, cc6, AA7, cc7, ((hF.repl 9 (by kernel_rfl)).cast (by kernel_rfl)), ((hM.repl 7 (by kernel_rfl)).cast (by kernel_rfl))⟩
        · intro s0 s1 s2 s3 s4 s5 s6 hc hi hp a w hS
          obtain rfl : s5 = false := hi
          obtain rfl : s4 = true := hp 4 (by kernel_rfl)
          obtain rfl : s2 = true := hp 2 (by kernel_rfl)
          obtain rfl : s0 = true := hp 0 (by kernel_rfl)
          obtain ⟨AA6, cc6, AA7, cc7, hF, hM⟩ := hS
          refine eP 42 (v0 := .agg #[.slice A lsl.length c, .slice AA6 ltr.length cc6, .slice AA7 lcf.length cc7]) (v := .agg #[.slice A lsl.length c, .slice AA6 ltr.length cc6, .slice AA7 lcf.length cc7]) hF (by kernel_rfl) (fun _ => by kernel_rfl) rfl fun a hF => ?_
          exact ⟨AA6, cc6, AA7, cc7, ((hF.repl 10 (by kernel_rfl)).cast (by kernel_rfl)), (hM.cast (by kernel_rfl))⟩
        · intro s0 s1 s2 s3 s4 s5 s6 hc hi hp a w hS
          obtain rfl : s6 = false := hi
          obtain ⟨AA6, cc6, AA7, cc7, hF, hM⟩ := hS
          refine eP 43 (v0 := .int .i64 0) (v := .int .i64 0) hF (by kernel_rfl) (fun _ => by kernel_rfl) rfl fun a hF => ?_
          exact ⟨AA6, cc6, AA7, cc7, ((hF.repl 11 (by kernel_rfl)).cast (by kernel_rfl)), (hM.cast (by kernel_rfl))⟩
      · intro a w hS
        obtain ⟨AA6, cc6, AA7, cc7, hF, hM⟩ := hS
        replace hF : Fr 70 [(1, some (.slice A lsl.length c)), (5, some (.pointer (some ⟨bb2, 0, none⟩))), (10, some (.pointer (some ⟨bb5, 0, none⟩))), (33, some (.agg #[.int .i64 b0, .int .i64 b1, .int .i64 dbb, .int .i64 dbr, .int .i64 fbw, .int .i64 dbr])), (34, some (.int .i64 (k34 : Int))), (37, some (.slice A lsl.length c)), (38, some (.agg #[.int .u32 bu, .int .u32 ra, .slice Ga gaps.length cg, .slice Sa sizes.length cs])), (39, some (.slice AA6 ltr.length cc6)), (40, some (.agg #[.int .u32 bu, .int .u32 ra, .slice Ga gaps.length cg, .slice Sa sizes.length cs])), (41, some (.slice AA7 lcf.length cc7)), (42, some (.agg #[.slice A lsl.length c, .slice AA6 ltr.length cc6, .slice AA7 lcf.length cc7])), (43, some (.int .i64 0))] a := hF.cast (by kernel_rfl)
        replace hM : Mem w0.heap.size w0 [(1, some (.ro Ga (gaps.map (Value.int .u16)))), (2, some (.ro Sa (sizes.map (Value.int .u16)))), (3, some (.ro A (flat2 l))), (5, some (.row bb2 27 #[.int .u32 bu, .int .u32 ra, .slice Ga gaps.length cg, .slice Sa sizes.length cs])), (6, some (.ro A (flat2 lsl))), (9, some (.row bb5 23 #[.int .i64 y2_0, .int .i64 y2_1])), (10, some (.own (.slice AA6 ltr.length cc6) 31 2 ltr.length (flat2 ltr))), (11, some (.own (.slice AA7 lcf.length cc7) 31 2 lcf.length (flat2 lcf)))] w := hM.cast (by kernel_rfl)
        refine hK12 _ _ ?_
        refine wp_block ?_
        refine wp_loop_rounds 4 ?_
        refine rounds_k fun K13 hK13 => ?_
        refine wp_seq_k fun K14 hK14 => ?_
        refine wp_region_lit ?_
        refine wl (eP 44 (v0 := .bool (decide (0 < 3))) (v := .bool true) hF (by kernel_rfl) (fun _ => by kernel_rfl) (bT (by omega)) fun a hF => ?_)
        refine wpList_nil ?_
        refine hK14 _ _ ?_
        refine wp_seq_k fun K15 hK15 => ?_
        refine cT hF (by kernel_rfl) (by kernel_rfl) ?_
        refine wp_skip ?_
        refine hK15 _ _ ?_
        refine wp_seq_k fun K16 hK16 => ?_
        refine wp_block ?_
        refine wp_seq_k fun K17 hK17 => ?_
        refine wp_region_lit ?_
        refine sB 2 [(45, .slice A lsl.length c), (12, .slice A lsl.length c)] hF (by kernel_rfl) fun a hF => ?_
        refine wpList_nil ?_
        refine hK17 _ _ ?_
        refine wp_seq_k fun K18 hK18 => ?_
        by_cases hz3 : srE y2_0 y2_1 lsl = 0
        · skip
          refine wp_region_lit ?_
          refine wl (eL 47 9 0 (v := .agg #[.int .i64 y2_0, .int .i64 y2_1]) hF hM (by kernel_rfl) rfl rfl (by kernel_rfl) (by kernel_rfl) fun a w hF hM => ?_)
          refine sB 1 [(48, .slice A lsl.length c)] hF (by kernel_rfl) fun a hF => ?_
          have := shUp_length y2_0 y2_1 lsl lsl.length
          refine wl (sOwn 12 (f := 19) (args := #[.agg #[.int .i64 y2_0, .int .i64 y2_1], .slice A lsl.length c]) (mk := fun v => .tuple #[v, .int .i64 0]) (e := 3) (size := 1) (m := lsl.length) (xs := ((shUp y2_0 y2_1 lsl lsl.length).map (Value.int .i64))) hF hM (by kernel_rfl) rfl (by decide) (by kernel_rfl) (fun _ => by kernel_rfl) (shRun_ok y2_0 y2_1 A lsl _ w (hM.ok 6 _ rfl) hz3) fun AA8 cc8 a w hF hM => ?_)
          refine sB 5 [(46, .tuple #[.slice AA8 lsl.length cc8, .int .i64 0]), (50, .slice AA8 lsl.length cc8), (51, .int .i64 0), (13, .slice AA8 lsl.length cc8), (14, .int .i64 0)] hF (by kernel_rfl) fun a hF => ?_
          refine wpList_nil ?_
          refine hK18 _ _ ?_
          refine wp_seq_k fun K19 hK19 => ?_
          refine wp_region_lit ?_
          refine wl (eL 53 9 0 (v := .agg #[.int .i64 y2_0, .int .i64 y2_1]) hF hM (by kernel_rfl) rfl rfl (by kernel_rfl) (by kernel_rfl) fun a w hF hM => ?_)
          refine sB 1 [(54, .slice A lsl.length c)] hF (by kernel_rfl) fun a hF => ?_
          have := shUp_length y2_0 y2_1 lsl lsl.length
          refine wl (sOwn 13 (f := 20) (args := #[.agg #[.int .i64 y2_0, .int .i64 y2_1], .slice A lsl.length c]) (mk := fun v => .tuple #[v, .int .i64 0]) (e := 3) (size := 1) (m := lsl.length) (xs := ((shUp y2_0 y2_1 lsl lsl.length).map (Value.int .i64))) hF hM (by kernel_rfl) rfl (by decide) (by kernel_rfl) (fun _ => by kernel_rfl) (rRun34_ok y2_0 y2_1 A lsl _ w (hM.ok 6 _ rfl) hz3) fun AA9 cc9 a w hF hM => ?_)
          refine sB 5 [(52, .tuple #[.slice AA9 lsl.length cc9, .int .i64 0]), (56, .slice AA9 lsl.length cc9), (57, .int .i64 0), (15, .slice AA9 lsl.length cc9), (16, .int .i64 0)] hF (by kernel_rfl) fun a hF => ?_
          refine wpList_nil ?_
          refine hK19 _ _ ?_
          refine wp_seq_k fun K20 hK20 => ?_
          refine wp_region_lit ?_
          refine sB 2 [(58, .int .i64 0), (59, .int .i64 0)] hF (by kernel_rfl) fun a hF => ?_
          refine wl (eP 60 (v0 := .bool (!decide (0 = 0))) (v := .bool false) hF (by kernel_rfl) (fun _ => by kernel_rfl) (nT (by omega)) fun a hF => ?_)
          refine sB 3 [(61, .bool false), (62, .slice AA8 lsl.length cc8), (63, .slice AA9 lsl.length cc9)] hF (by kernel_rfl) fun a hF => ?_
          refine wl (eM 64 (v := .bool true) hF hM (by kernel_rfl) (yld_call (f := 21) (args := #[.slice AA8 lsl.length cc8, .slice AA9 lsl.length cc9]) hF (by kernel_rfl) (fun _ => by kernel_rfl) (fun w hM => (by rw [show lsl.length = (shUp y2_0 y2_1 lsl lsl.length).length from by first | omega | (simp; done)]; exact same_yes AA8 (shUp y2_0 y2_1 lsl lsl.length) cc8 AA9 (shUp y2_0 y2_1 lsl lsl.length) cc9 w (ro_of_own (hM.ok 12 _ rfl)) (ro_of_own (hM.ok 13 _ rfl)) (by omega) rfl))) fun a w hF hM => ?_)
          refine sB 2 [(65, .bool false), (66, .bool false)] hF (by kernel_rfl) fun a hF => ?_
          refine wpList_nil ?_
          refine hK20 _ _ ?_
          refine cF hF (by kernel_rfl) (by kernel_rfl) ?_
          refine wp_skip ?_
          refine hK16 _ _ ?_
          refine wp_region_lit ?_
          refine wl (eP 67 (v0 := .int .i64 (IntKind.i64.wrap (0 + 1))) (v := .int .i64 1) hF (by kernel_rfl) (fun _ => by kernel_rfl) (vi (by decide)) fun a hF => ?_)
          refine sB 1 [(43, .int .i64 1)] hF (by kernel_rfl) fun a hF => ?_
          refine wpList_nil ?_
          refine hK13 _ _ ?_
          refine rounds_k fun K21 hK21 => ?_
          refine wp_seq_k fun K22 hK22 => ?_
          refine wp_region_lit ?_
          refine wl (eP 44 (v0 := .bool (decide (1 < 3))) (v := .bool true) hF (by kernel_rfl) (fun _ => by kernel_rfl) (bT (by omega)) fun a hF => ?_)
          refine wpList_nil ?_
          refine hK22 _ _ ?_
          refine wp_seq_k fun K23 hK23 => ?_
          refine cT hF (by kernel_rfl) (by kernel_rfl) ?_
          refine wp_skip ?_
          refine hK23 _ _ ?_
          refine wp_seq_k fun K24 hK24 => ?_
          refine wp_block ?_
          refine wp_seq_k fun K25 hK25 => ?_
          refine wp_region_lit ?_
          refine sB 2 [(45, .slice AA6 ltr.length cc6), (12, .slice AA6 ltr.length cc6)] hF (by kernel_rfl) fun a hF => ?_
          refine wpList_nil ?_
          refine hK25 _ _ ?_
          refine wp_seq_k fun K26 hK26 => ?_
          by_cases hz4 : srE y2_0 y2_1 ltr = 0
          · skip
            refine wp_region_lit ?_
            refine wl (eL 47 9 0 (v := .agg #[.int .i64 y2_0, .int .i64 y2_1]) hF hM (by kernel_rfl) rfl rfl (by kernel_rfl) (by kernel_rfl) fun a w hF hM => ?_)
            refine sB 1 [(48, .slice AA6 ltr.length cc6)] hF (by kernel_rfl) fun a hF => ?_
            have := shUp_length y2_0 y2_1 ltr ltr.length
            refine wl (sOwn 14 (f := 19) (args := #[.agg #[.int .i64 y2_0, .int .i64 y2_1], .slice AA6 ltr.length cc6]) (mk := fun v => .tuple #[v, .int .i64 0]) (e := 3) (size := 1) (m := ltr.length) (xs := ((shUp y2_0 y2_1 ltr ltr.length).map (Value.int .i64))) hF hM (by kernel_rfl) rfl (by decide) (by kernel_rfl) (fun _ => by kernel_rfl) (shRun_ok y2_0 y2_1 AA6 ltr _ w (ro_of_own (hM.ok 10 _ rfl)) hz4) fun AA10 cc10 a w hF hM => ?_)
            refine sB 5 [(46, .tuple #[.slice AA10 ltr.length cc10, .int .i64 0]), (50, .slice AA10 ltr.length cc10), (51, .int .i64 0), (13, .slice AA10 ltr.length cc10), (14, .int .i64 0)] hF (by kernel_rfl) fun a hF => ?_
            refine wpList_nil ?_
            refine hK26 _ _ ?_
            refine wp_seq_k fun K27 hK27 => ?_
            refine wp_region_lit ?_
            refine wl (eL 53 9 0 (v := .agg #[.int .i64 y2_0, .int .i64 y2_1]) hF hM (by kernel_rfl) rfl rfl (by kernel_rfl) (by kernel_rfl) fun a w hF hM => ?_)
            refine sB 1 [(54, .slice AA6 ltr.length cc6)] hF (by kernel_rfl) fun a hF => ?_
            have := shUp_length y2_0 y2_1 ltr ltr.length
            refine wl (sOwn 15 (f := 20) (args := #[.agg #[.int .i64 y2_0, .int .i64 y2_1], .slice AA6 ltr.length cc6]) (mk := fun v => .tuple #[v, .int .i64 0]) (e := 3) (size := 1) (m := ltr.length) (xs := ((shUp y2_0 y2_1 ltr ltr.length).map (Value.int .i64))) hF hM (by kernel_rfl) rfl (by decide) (by kernel_rfl) (fun _ => by kernel_rfl) (rRun34_ok y2_0 y2_1 AA6 ltr _ w (ro_of_own (hM.ok 10 _ rfl)) hz4) fun AA11 cc11 a w hF hM => ?_)
            refine sB 5 [(52, .tuple #[.slice AA11 ltr.length cc11, .int .i64 0]), (56, .slice AA11 ltr.length cc11), (57, .int .i64 0), (15, .slice AA11 ltr.length cc11), (16, .int .i64 0)] hF (by kernel_rfl) fun a hF => ?_
            refine wpList_nil ?_
            refine hK27 _ _ ?_
            refine wp_seq_k fun K28 hK28 => ?_
            refine wp_region_lit ?_
            refine sB 2 [(58, .int .i64 0), (59, .int .i64 0)] hF (by kernel_rfl) fun a hF => ?_
            refine wl (eP 60 (v0 := .bool (!decide (0 = 0))) (v := .bool false) hF (by kernel_rfl) (fun _ => by kernel_rfl) (nT (by omega)) fun a hF => ?_)
            refine sB 3 [(61, .bool false), (62, .slice AA10 ltr.length cc10), (63, .slice AA11 ltr.length cc11)] hF (by kernel_rfl) fun a hF => ?_
            refine wl (eM 64 (v := .bool true) hF hM (by kernel_rfl) (yld_call (f := 21) (args := #[.slice AA10 ltr.length cc10, .slice AA11 ltr.length cc11]) hF (by kernel_rfl) (fun _ => by kernel_rfl) (fun w hM => (by rw [show ltr.length = (shUp y2_0 y2_1 ltr ltr.length).length from by first | omega | (simp; done)]; exact same_yes AA10 (shUp y2_0 y2_1 ltr ltr.length) cc10 AA11 (shUp y2_0 y2_1 ltr ltr.length) cc11 w (ro_of_own (hM.ok 14 _ rfl)) (ro_of_own (hM.ok 15 _ rfl)) (by omega) rfl))) fun a w hF hM => ?_)
            refine sB 2 [(65, .bool false), (66, .bool false)] hF (by kernel_rfl) fun a hF => ?_
            refine wpList_nil ?_
            refine hK28 _ _ ?_
            refine cF hF (by kernel_rfl) (by kernel_rfl) ?_
            refine wp_skip ?_
            refine hK24 _ _ ?_
            refine wp_region_lit ?_
            refine wl (eP 67 (v0 := .int .i64 (IntKind.i64.wrap (1 + 1))) (v := .int .i64 2) hF (by kernel_rfl) (fun _ => by kernel_rfl) (vi (by decide)) fun a hF => ?_)
            refine sB 1 [(43, .int .i64 2)] hF (by kernel_rfl) fun a hF => ?_
            refine wpList_nil ?_
            refine hK21 _ _ ?_
            refine rounds_k fun K29 hK29 => ?_
            refine wp_seq_k fun K30 hK30 => ?_
            refine wp_region_lit ?_
            refine wl (eP 44 (v0 := .bool (decide (2 < 3))) (v := .bool true) hF (by kernel_rfl) (fun _ => by kernel_rfl) (bT (by omega)) fun a hF => ?_)
            refine wpList_nil ?_
            refine hK30 _ _ ?_
            refine wp_seq_k fun K31 hK31 => ?_
            refine cT hF (by kernel_rfl) (by kernel_rfl) ?_
            refine wp_skip ?_
            refine hK31 _ _ ?_
            refine wp_seq_k fun K32 hK32 => ?_
            refine wp_block ?_
            refine wp_seq_k fun K33 hK33 => ?_
            refine wp_region_lit ?_
            refine sB 2 [(45, .slice AA7 lcf.length cc7), (12, .slice AA7 lcf.length cc7)] hF (by kernel_rfl) fun a hF => ?_
            refine wpList_nil ?_
            refine hK33 _ _ ?_
            refine wp_seq_k fun K34 hK34 => ?_
            by_cases hz5 : srE y2_0 y2_1 lcf = 0
            · skip
              refine wp_region_lit ?_
              refine wl (eL 47 9 0 (v := .agg #[.int .i64 y2_0, .int .i64 y2_1]) hF hM (by kernel_rfl) rfl rfl (by kernel_rfl) (by kernel_rfl) fun a w hF hM => ?_)
              refine sB 1 [(48, .slice AA7 lcf.length cc7)] hF (by kernel_rfl) fun a hF => ?_
              have := shUp_length y2_0 y2_1 lcf lcf.length
              refine wl (sOwn 16 (f := 19) (args := #[.agg #[.int .i64 y2_0, .int .i64 y2_1], .slice AA7 lcf.length cc7]) (mk := fun v => .tuple #[v, .int .i64 0]) (e := 3) (size := 1) (m := lcf.length) (xs := ((shUp y2_0 y2_1 lcf lcf.length).map (Value.int .i64))) hF hM (by kernel_rfl) rfl (by decide) (by kernel_rfl) (fun _ => by kernel_rfl) (shRun_ok y2_0 y2_1 AA7 lcf _ w (ro_of_own (hM.ok 11 _ rfl)) hz5) fun AA12 cc12 a w hF hM => ?_)
              refine sB 5 [(46, .tuple #[.slice AA12 lcf.length cc12, .int .i64 0]), (50, .slice AA12 lcf.length cc12), (51, .int .i64 0), (13, .slice AA12 lcf.length cc12), (14, .int .i64 0)] hF (by kernel_rfl) fun a hF => ?_
              refine wpList_nil ?_
              refine hK34 _ _ ?_
              refine wp_seq_k fun K35 hK35 => ?_
              refine wp_region_lit ?_
              refine wl (eL 53 9 0 (v := .agg #[.int .i64 y2_0, .int .i64 y2_1]) hF hM (by kernel_rfl) rfl rfl (by kernel_rfl) (by kernel_rfl) fun a w hF hM => ?_)
              refine sB 1 [(54, .slice AA7 lcf.length cc7)] hF (by kernel_rfl) fun a hF => ?_
              have := shUp_length y2_0 y2_1 lcf lcf.length
              refine wl (sOwn 17 (f := 20) (args := #[.agg #[.int .i64 y2_0, .int .i64 y2_1], .slice AA7 lcf.length cc7]) (mk := fun v => .tuple #[v, .int .i64 0]) (e := 3) (size := 1) (m := lcf.length) (xs := ((shUp y2_0 y2_1 lcf lcf.length).map (Value.int .i64))) hF hM (by kernel_rfl) rfl (by decide) (by kernel_rfl) (fun _ => by kernel_rfl) (rRun34_ok y2_0 y2_1 AA7 lcf _ w (ro_of_own (hM.ok 11 _ rfl)) hz5) fun AA13 cc13 a w hF hM => ?_)
              refine sB 5 [(52, .tuple #[.slice AA13 lcf.length cc13, .int .i64 0]), (56, .slice AA13 lcf.length cc13), (57, .int .i64 0), (15, .slice AA13 lcf.length cc13), (16, .int .i64 0)] hF (by kernel_rfl) fun a hF => ?_
              refine wpList_nil ?_
              refine hK35 _ _ ?_
              refine wp_seq_k fun K36 hK36 => ?_
              refine wp_region_lit ?_
              refine sB 2 [(58, .int .i64 0), (59, .int .i64 0)] hF (by kernel_rfl) fun a hF => ?_
              refine wl (eP 60 (v0 := .bool (!decide (0 = 0))) (v := .bool false) hF (by kernel_rfl) (fun _ => by kernel_rfl) (nT (by omega)) fun a hF => ?_)
              refine sB 3 [(61, .bool false), (62, .slice AA12 lcf.length cc12), (63, .slice AA13 lcf.length cc13)] hF (by kernel_rfl) fun a hF => ?_
              refine wl (eM 64 (v := .bool true) hF hM (by kernel_rfl) (yld_call (f := 21) (args := #[.slice AA12 lcf.length cc12, .slice AA13 lcf.length cc13]) hF (by kernel_rfl) (fun _ => by kernel_rfl) (fun w hM => (by rw [show lcf.length = (shUp y2_0 y2_1 lcf lcf.length).length from by first | omega | (simp; done)]; exact same_yes AA12 (shUp y2_0 y2_1 lcf lcf.length) cc12 AA13 (shUp y2_0 y2_1 lcf lcf.length) cc13 w (ro_of_own (hM.ok 16 _ rfl)) (ro_of_own (hM.ok 17 _ rfl)) (by omega) rfl))) fun a w hF hM => ?_)
              refine sB 2 [(65, .bool false), (66, .bool false)] hF (by kernel_rfl) fun a hF => ?_
              refine wpList_nil ?_
              refine hK36 _ _ ?_
              refine cF hF (by kernel_rfl) (by kernel_rfl) ?_
              refine wp_skip ?_
              refine hK32 _ _ ?_
              refine wp_region_lit ?_
              refine wl (eP 67 (v0 := .int .i64 (IntKind.i64.wrap (2 + 1))) (v := .int .i64 3) hF (by kernel_rfl) (fun _ => by kernel_rfl) (vi (by decide)) fun a hF => ?_)
              refine sB 1 [(43, .int .i64 3)] hF (by kernel_rfl) fun a hF => ?_
              refine wpList_nil ?_
              refine hK29 _ _ ?_
              refine rounds_k fun K37 hK37 => ?_
              refine wp_seq_k fun K38 hK38 => ?_
              refine wp_region_lit ?_
              refine wl (eP 44 (v0 := .bool (decide (3 < 3))) (v := .bool false) hF (by kernel_rfl) (fun _ => by kernel_rfl) (bF (by omega)) fun a hF => ?_)
              refine wpList_nil ?_
              refine hK38 _ _ ?_
              refine wp_seq_k fun K39 hK39 => ?_
              refine cF hF (by kernel_rfl) (by kernel_rfl) ?_
              refine wp_exit ?_
              refine hK10 _ _ ?_
              refine wp_region_lit ?_
              refine wl (eP 68 (v0 := .int .i64 (IntKind.i64.wrap ((k34 : Int) + 1))) (v := .int .i64 ((k34 : Int) + 1)) hF (by kernel_rfl) (fun _ => by kernel_rfl) (wi (by omega)) fun a hF => ?_)
              refine sB 1 [(34, .int .i64 ((k34 : Int) + 1))] hF (by kernel_rfl) fun a hF => ?_
              refine wpList_nil ?_
              refine hK7 _ _ ⟨(k34 + 1), ⟨(((((Fr.nil hF).c hF (i := 33) rfl rfl).c hF (i := 5) rfl rfl).c hF (i := 1) rfl rfl).c hF (i := 34) rfl (vi (show ((k34 : Int) + 1 : Int) = ((k34 + 1) : Int) from by omega))), (hM.sub (((((Sub.nil.c (k := 6) rfl rfl).c (k := 5) rfl rfl).c (k := 3) rfl rfl).c (k := 2) rfl rfl).c (k := 1) rfl rfl)), (show ((k34 + 1) : Int) ≤ 3 from by omega)⟩, (show 3 - (k34 + 1) < 3 - k34 from by omega)⟩
            · skip
              refine wp_region_lit ?_
              refine wl (eL 47 9 0 (v := .agg #[.int .i64 y2_0, .int .i64 y2_1]) hF hM (by kernel_rfl) rfl rfl (by kernel_rfl) (by kernel_rfl) fun a w hF hM => ?_)
              refine sB 1 [(48, .slice AA7 lcf.length cc7)] hF (by kernel_rfl) fun a hF => ?_
              refine wl (eM 49 (v := .tuple #[.slice none 0 0, .int .i64 (srE y2_0 y2_1 lcf)]) hF hM (by kernel_rfl) (yld_call (f := 19) (args := #[.agg #[.int .i64 y2_0, .int .i64 y2_1], .slice AA7 lcf.length cc7]) hF (by kernel_rfl) (fun _ => by kernel_rfl) (fun w hM => shRun_bad y2_0 y2_1 AA7 lcf _ w (ro_of_own (hM.ok 11 _ rfl)) hz5)) fun a w hF hM => ?_)
              refine sB 5 [(46, .tuple #[.slice none 0 0, .int .i64 (srE y2_0 y2_1 lcf)]), (50, .slice none 0 0), (51, .int .i64 (srE y2_0 y2_1 lcf)), (13, .slice none 0 0), (14, .int .i64 (srE y2_0 y2_1 lcf))] hF (by kernel_rfl) fun a hF => ?_
              refine wpList_nil ?_
              refine hK34 _ _ ?_
              refine wp_seq_k fun K40 hK40 => ?_
              refine wp_region_lit ?_
              refine wl (eL 53 9 0 (v := .agg #[.int .i64 y2_0, .int .i64 y2_1]) hF hM (by kernel_rfl) rfl rfl (by kernel_rfl) (by kernel_rfl) fun a w hF hM => ?_)
              refine sB 1 [(54, .slice AA7 lcf.length cc7)] hF (by kernel_rfl) fun a hF => ?_
              refine wl (eM 55 (v := .tuple #[.slice none 0 0, .int .i64 (srE y2_0 y2_1 lcf)]) hF hM (by kernel_rfl) (yld_call (f := 20) (args := #[.agg #[.int .i64 y2_0, .int .i64 y2_1], .slice AA7 lcf.length cc7]) hF (by kernel_rfl) (fun _ => by kernel_rfl) (fun w hM => rRun34_bad y2_0 y2_1 AA7 lcf _ w (ro_of_own (hM.ok 11 _ rfl)) hz5)) fun a w hF hM => ?_)
              refine sB 5 [(52, .tuple #[.slice none 0 0, .int .i64 (srE y2_0 y2_1 lcf)]), (56, .slice none 0 0), (57, .int .i64 (srE y2_0 y2_1 lcf)), (15, .slice none 0 0), (16, .int .i64 (srE y2_0 y2_1 lcf))] hF (by kernel_rfl) fun a hF => ?_
              refine wpList_nil ?_
              refine hK40 _ _ ?_
              refine wp_seq_k fun K41 hK41 => ?_
              refine wp_region_lit ?_
              refine sB 2 [(58, .int .i64 (srE y2_0 y2_1 lcf)), (59, .int .i64 (srE y2_0 y2_1 lcf))] hF (by kernel_rfl) fun a hF => ?_
              refine wl (eP 60 (v0 := .bool (!decide (srE y2_0 y2_1 lcf = srE y2_0 y2_1 lcf))) (v := .bool false) hF (by kernel_rfl) (fun _ => by kernel_rfl) (nT (by omega)) fun a hF => ?_)
              refine sB 3 [(61, .bool false), (62, .slice none 0 0), (63, .slice none 0 0)] hF (by kernel_rfl) fun a hF => ?_
              refine wl (eM 64 (v := .bool true) hF hM (by kernel_rfl) (yld_call (f := 21) (args := #[.slice none 0 0, .slice none 0 0]) hF (by kernel_rfl) (fun _ => by kernel_rfl) (fun w hM => same_yes none ([] : List Int) 0 none ([] : List Int) 0 w Ro.nil Ro.nil (by decide) (by decide))) fun a w hF hM => ?_)
              refine sB 2 [(65, .bool false), (66, .bool false)] hF (by kernel_rfl) fun a hF => ?_
              refine wpList_nil ?_
              refine hK41 _ _ ?_
              refine cF hF (by kernel_rfl) (by kernel_rfl) ?_
              refine wp_skip ?_
              refine hK32 _ _ ?_
              refine wp_region_lit ?_
              refine wl (eP 67 (v0 := .int .i64 (IntKind.i64.wrap (2 + 1))) (v := .int .i64 3) hF (by kernel_rfl) (fun _ => by kernel_rfl) (vi (by decide)) fun a hF => ?_)
              refine sB 1 [(43, .int .i64 3)] hF (by kernel_rfl) fun a hF => ?_
              refine wpList_nil ?_
              refine hK29 _ _ ?_
              refine rounds_k fun K42 hK42 => ?_
              refine wp_seq_k fun K43 hK43 => ?_
              refine wp_region_lit ?_
              refine wl (eP 44 (v0 := .bool (decide (3 < 3))) (v := .bool false) hF (by kernel_rfl) (fun _ => by kernel_rfl) (bF (by omega)) fun a hF => ?_)
              refine wpList_nil ?_
              refine hK43 _ _ ?_
              refine wp_seq_k fun K44 hK44 => ?_
              refine cF hF (by kernel_rfl) (by kernel_rfl) ?_
              refine wp_exit ?_
              refine hK10 _ _ ?_
              refine wp_region_lit ?_
              refine wl (eP 68 (v0 := .int .i64 (IntKind.i64.wrap ((k34 : Int) + 1))) (v := .int .i64 ((k34 : Int) + 1)) hF (by kernel_rfl) (fun _ => by kernel_rfl) (wi (by omega)) fun a hF => ?_)
              refine sB 1 [(34, .int .i64 ((k34 : Int) + 1))] hF (by kernel_rfl) fun a hF => ?_
              refine wpList_nil ?_
              refine hK7 _ _ ⟨(k34 + 1), ⟨(((((Fr.nil hF).c hF (i := 33) rfl rfl).c hF (i := 5) rfl rfl).c hF (i := 1) rfl rfl).c hF (i := 34) rfl (vi (show ((k34 : Int) + 1 : Int) = ((k34 + 1) : Int) from by omega))), (hM.sub (((((Sub.nil.c (k := 6) rfl rfl).c (k := 5) rfl rfl).c (k := 3) rfl rfl).c (k := 2) rfl rfl).c (k := 1) rfl rfl)), (show ((k34 + 1) : Int) ≤ 3 from by omega)⟩, (show 3 - (k34 + 1) < 3 - k34 from by omega)⟩
          · skip
            refine wp_region_lit ?_
            refine wl (eL 47 9 0 (v := .agg #[.int .i64 y2_0, .int .i64 y2_1]) hF hM (by kernel_rfl) rfl rfl (by kernel_rfl) (by kernel_rfl) fun a w hF hM => ?_)
            refine sB 1 [(48, .slice AA6 ltr.length cc6)] hF (by kernel_rfl) fun a hF => ?_
            refine wl (eM 49 (v := .tuple #[.slice none 0 0, .int .i64 (srE y2_0 y2_1 ltr)]) hF hM (by kernel_rfl) (yld_call (f := 19) (args := #[.agg #[.int .i64 y2_0, .int .i64 y2_1], .slice AA6 ltr.length cc6]) hF (by kernel_rfl) (fun _ => by kernel_rfl) (fun w hM => shRun_bad y2_0 y2_1 AA6 ltr _ w (ro_of_own (hM.ok 10 _ rfl)) hz4)) fun a w hF hM => ?_)
            refine sB 5 [(46, .tuple #[.slice none 0 0, .int .i64 (srE y2_0 y2_1 ltr)]), (50, .slice none 0 0), (51, .int .i64 (srE y2_0 y2_1 ltr)), (13, .slice none 0 0), (14, .int .i64 (srE y2_0 y2_1 ltr))] hF (by kernel_rfl) fun a hF => ?_
            refine wpList_nil ?_
            refine hK26 _ _ ?_
            refine wp_seq_k fun K45 hK45 => ?_
            refine wp_region_lit ?_
            refine wl (eL 53 9 0 (v := .agg #[.int .i64 y2_0, .int .i64 y2_1]) hF hM (by kernel_rfl) rfl rfl (by kernel_rfl) (by kernel_rfl) fun a w hF hM => ?_)
            refine sB 1 [(54, .slice AA6 ltr.length cc6)] hF (by kernel_rfl) fun a hF => ?_
            refine wl (eM 55 (v := .tuple #[.slice none 0 0, .int .i64 (srE y2_0 y2_1 ltr)]) hF hM (by kernel_rfl) (yld_call (f := 20) (args := #[.agg #[.int .i64 y2_0, .int .i64 y2_1], .slice AA6 ltr.length cc6]) hF (by kernel_rfl) (fun _ => by kernel_rfl) (fun w hM => rRun34_bad y2_0 y2_1 AA6 ltr _ w (ro_of_own (hM.ok 10 _ rfl)) hz4)) fun a w hF hM => ?_)
            refine sB 5 [(52, .tuple #[.slice none 0 0, .int .i64 (srE y2_0 y2_1 ltr)]), (56, .slice none 0 0), (57, .int .i64 (srE y2_0 y2_1 ltr)), (15, .slice none 0 0), (16, .int .i64 (srE y2_0 y2_1 ltr))] hF (by kernel_rfl) fun a hF => ?_
            refine wpList_nil ?_
            refine hK45 _ _ ?_
            refine wp_seq_k fun K46 hK46 => ?_
            refine wp_region_lit ?_
            refine sB 2 [(58, .int .i64 (srE y2_0 y2_1 ltr)), (59, .int .i64 (srE y2_0 y2_1 ltr))] hF (by kernel_rfl) fun a hF => ?_
            refine wl (eP 60 (v0 := .bool (!decide (srE y2_0 y2_1 ltr = srE y2_0 y2_1 ltr))) (v := .bool false) hF (by kernel_rfl) (fun _ => by kernel_rfl) (nT (by omega)) fun a hF => ?_)
            refine sB 3 [(61, .bool false), (62, .slice none 0 0), (63, .slice none 0 0)] hF (by kernel_rfl) fun a hF => ?_
            refine wl (eM 64 (v := .bool true) hF hM (by kernel_rfl) (yld_call (f := 21) (args := #[.slice none 0 0, .slice none 0 0]) hF (by kernel_rfl) (fun _ => by kernel_rfl) (fun w hM => same_yes none ([] : List Int) 0 none ([] : List Int) 0 w Ro.nil Ro.nil (by decide) (by decide))) fun a w hF hM => ?_)
            refine sB 2 [(65, .bool false), (66, .bool false)] hF (by kernel_rfl) fun a hF => ?_
            refine wpList_nil ?_
            refine hK46 _ _ ?_
            refine cF hF (by kernel_rfl) (by kernel_rfl) ?_
            refine wp_skip ?_
            refine hK24 _ _ ?_
            refine wp_region_lit ?_
            refine wl (eP 67 (v0 := .int .i64 (IntKind.i64.wrap (1 + 1))) (v := .int .i64 2) hF (by kernel_rfl) (fun _ => by kernel_rfl) (vi (by decide)) fun a hF => ?_)
            refine sB 1 [(43, .int .i64 2)] hF (by kernel_rfl) fun a hF => ?_
            refine wpList_nil ?_
            refine hK21 _ _ ?_
            refine rounds_k fun K47 hK47 => ?_
            refine wp_seq_k fun K48 hK48 => ?_
            refine wp_region_lit ?_
            refine wl (eP 44 (v0 := .bool (decide (2 < 3))) (v := .bool true) hF (by kernel_rfl) (fun _ => by kernel_rfl) (bT (by omega)) fun a hF => ?_)
            refine wpList_nil ?_
            refine hK48 _ _ ?_
            refine wp_seq_k fun K49 hK49 => ?_
            refine cT hF (by kernel_rfl) (by kernel_rfl) ?_
            refine wp_skip ?_
            refine hK49 _ _ ?_
            refine wp_seq_k fun K50 hK50 => ?_
            refine wp_block ?_
            refine wp_seq_k fun K51 hK51 => ?_
            refine wp_region_lit ?_
            refine sB 2 [(45, .slice AA7 lcf.length cc7), (12, .slice AA7 lcf.length cc7)] hF (by kernel_rfl) fun a hF => ?_
            refine wpList_nil ?_
            refine hK51 _ _ ?_
            refine wp_seq_k fun K52 hK52 => ?_
            by_cases hz6 : srE y2_0 y2_1 lcf = 0
            · skip
              refine wp_region_lit ?_
              refine wl (eL 47 9 0 (v := .agg #[.int .i64 y2_0, .int .i64 y2_1]) hF hM (by kernel_rfl) rfl rfl (by kernel_rfl) (by kernel_rfl) fun a w hF hM => ?_)
              refine sB 1 [(48, .slice AA7 lcf.length cc7)] hF (by kernel_rfl) fun a hF => ?_
              have := shUp_length y2_0 y2_1 lcf lcf.length
              refine wl (sOwn 18 (f := 19) (args := #[.agg #[.int .i64 y2_0, .int .i64 y2_1], .slice AA7 lcf.length cc7]) (mk := fun v => .tuple #[v, .int .i64 0]) (e := 3) (size := 1) (m := lcf.length) (xs := ((shUp y2_0 y2_1 lcf lcf.length).map (Value.int .i64))) hF hM (by kernel_rfl) rfl (by decide) (by kernel_rfl) (fun _ => by kernel_rfl) (shRun_ok y2_0 y2_1 AA7 lcf _ w (ro_of_own (hM.ok 11 _ rfl)) hz6) fun AA14 cc14 a w hF hM => ?_)
              refine sB 5 [(46, .tuple #[.slice AA14 lcf.length cc14, .int .i64 0]), (50, .slice AA14 lcf.length cc14), (51, .int .i64 0), (13, .slice AA14 lcf.length cc14), (14, .int .i64 0)] hF (by kernel_rfl) fun a hF => ?_
              refine wpList_nil ?_
              refine hK52 _ _ ?_
              refine wp_seq_k fun K53 hK53 => ?_
              refine wp_region_lit ?_
              refine wl (eL 53 9 0 (v := .agg #[.int .i64 y2_0, .int .i64 y2_1]) hF hM (by kernel_rfl) rfl rfl (by kernel_rfl) (by kernel_rfl) fun a w hF hM => ?_)
              refine sB 1 [(54, .slice AA7 lcf.length cc7)] hF (by kernel_rfl) fun a hF => ?_
              have := shUp_length y2_0 y2_1 lcf lcf.length
              refine wl (sOwn 19 (f := 20) (args := #[.agg #[.int .i64 y2_0, .int .i64 y2_1], .slice AA7 lcf.length cc7]) (mk := fun v => .tuple #[v, .int .i64 0]) (e := 3) (size := 1) (m := lcf.length) (xs := ((shUp y2_0 y2_1 lcf lcf.length).map (Value.int .i64))) hF hM (by kernel_rfl) rfl (by decide) (by kernel_rfl) (fun _ => by kernel_rfl) (rRun34_ok y2_0 y2_1 AA7 lcf _ w (ro_of_own (hM.ok 11 _ rfl)) hz6) fun AA15 cc15 a w hF hM => ?_)
              refine sB 5 [(52, .tuple #[.slice AA15 lcf.length cc15, .int .i64 0]), (56, .slice AA15 lcf.length cc15), (57, .int .i64 0), (15, .slice AA15 lcf.length cc15), (16, .int .i64 0)] hF (by kernel_rfl) fun a hF => ?_
              refine wpList_nil ?_
              refine hK53 _ _ ?_
              refine wp_seq_k fun K54 hK54 => ?_
              refine wp_region_lit ?_
              refine sB 2 [(58, .int .i64 0), (59, .int .i64 0)] hF (by kernel_rfl) fun a hF => ?_
              refine wl (eP 60 (v0 := .bool (!decide (0 = 0))) (v := .bool false) hF (by kernel_rfl) (fun _ => by kernel_rfl) (nT (by omega)) fun a hF => ?_)
              refine sB 3 [(61, .bool false), (62, .slice AA14 lcf.length cc14), (63, .slice AA15 lcf.length cc15)] hF (by kernel_rfl) fun a hF => ?_
              refine wl (eM 64 (v := .bool true) hF hM (by kernel_rfl) (yld_call (f := 21) (args := #[.slice AA14 lcf.length cc14, .slice AA15 lcf.length cc15]) hF (by kernel_rfl) (fun _ => by kernel_rfl) (fun w hM => (by rw [show lcf.length = (shUp y2_0 y2_1 lcf lcf.length).length from by first | omega | (simp; done)]; exact same_yes AA14 (shUp y2_0 y2_1 lcf lcf.length) cc14 AA15 (shUp y2_0 y2_1 lcf lcf.length) cc15 w (ro_of_own (hM.ok 18 _ rfl)) (ro_of_own (hM.ok 19 _ rfl)) (by omega) rfl))) fun a w hF hM => ?_)
              refine sB 2 [(65, .bool false), (66, .bool false)] hF (by kernel_rfl) fun a hF => ?_
              refine wpList_nil ?_
              refine hK54 _ _ ?_
              refine cF hF (by kernel_rfl) (by kernel_rfl) ?_
              refine wp_skip ?_
              refine hK50 _ _ ?_
              refine wp_region_lit ?_
              refine wl (eP 67 (v0 := .int .i64 (IntKind.i64.wrap (2 + 1))) (v := .int .i64 3) hF (by kernel_rfl) (fun _ => by kernel_rfl) (vi (by decide)) fun a hF => ?_)
              refine sB 1 [(43, .int .i64 3)] hF (by kernel_rfl) fun a hF => ?_
              refine wpList_nil ?_
              refine hK47 _ _ ?_
              refine rounds_k fun K55 hK55 => ?_
              refine wp_seq_k fun K56 hK56 => ?_
              refine wp_region_lit ?_
              refine wl (eP 44 (v0 := .bool (decide (3 < 3))) (v := .bool false) hF (by kernel_rfl) (fun _ => by kernel_rfl) (bF (by omega)) fun a hF => ?_)
              refine wpList_nil ?_
              refine hK56 _ _ ?_
              refine wp_seq_k fun K57 hK57 => ?_
              refine cF hF (by kernel_rfl) (by kernel_rfl) ?_
              refine wp_exit ?_
              refine hK10 _ _ ?_
              refine wp_region_lit ?_
              refine wl (eP 68 (v0 := .int .i64 (IntKind.i64.wrap ((k34 : Int) + 1))) (v := .int .i64 ((k34 : Int) + 1)) hF (by kernel_rfl) (fun _ => by kernel_rfl) (wi (by omega)) fun a hF => ?_)
              refine sB 1 [(34, .int .i64 ((k34 : Int) + 1))] hF (by kernel_rfl) fun a hF => ?_
              refine wpList_nil ?_
              refine hK7 _ _ ⟨(k34 + 1), ⟨(((((Fr.nil hF).c hF (i := 33) rfl rfl).c hF (i := 5) rfl rfl).c hF (i := 1) rfl rfl).c hF (i := 34) rfl (vi (show ((k34 : Int) + 1 : Int) = ((k34 + 1) : Int) from by omega))), (hM.sub (((((Sub.nil.c (k := 6) rfl rfl).c (k := 5) rfl rfl).c (k := 3) rfl rfl).c (k := 2) rfl rfl).c (k := 1) rfl rfl)), (show ((k34 + 1) : Int) ≤ 3 from by omega)⟩, (show 3 - (k34 + 1) < 3 - k34 from by omega)⟩
            · skip
              refine wp_region_lit ?_
              refine wl (eL 47 9 0 (v := .agg #[.int .i64 y2_0, .int .i64 y2_1]) hF hM (by kernel_rfl) rfl rfl (by kernel_rfl) (by kernel_rfl) fun a w hF hM => ?_)
              refine sB 1 [(48, .slice AA7 lcf.length cc7)] hF (by kernel_rfl) fun a hF => ?_
              refine wl (eM 49 (v := .tuple #[.slice none 0 0, .int .i64 (srE y2_0 y2_1 lcf)]) hF hM (by kernel_rfl) (yld_call (f := 19) (args := #[.agg #[.int .i64 y2_0, .int .i64 y2_1], .slice AA7 lcf.length cc7]) hF (by kernel_rfl) (fun _ => by kernel_rfl) (fun w hM => shRun_bad y2_0 y2_1 AA7 lcf _ w (ro_of_own (hM.ok 11 _ rfl)) hz6)) fun a w hF hM => ?_)
              refine sB 5 [(46, .tuple #[.slice none 0 0, .int .i64 (srE y2_0 y2_1 lcf)]), (50, .slice none 0 0), (51, .int .i64 (srE y2_0 y2_1 lcf)), (13, .slice none 0 0), (14, .int .i64 (srE y2_0 y2_1 lcf))] hF (by kernel_rfl) fun a hF => ?_
              refine wpList_nil ?_
              refine hK52 _ _ ?_
              refine wp_seq_k fun K58 hK58 => ?_
              refine wp_region_lit ?_
              refine wl (eL 53 9 0 (v := .agg #[.int .i64 y2_0, .int .i64 y2_1]) hF hM (by kernel_rfl) rfl rfl (by kernel_rfl) (by kernel_rfl) fun a w hF hM => ?_)
              refine sB 1 [(54, .slice AA7 lcf.length cc7)] hF (by kernel_rfl) fun a hF => ?_
              refine wl (eM 55 (v := .tuple #[.slice none 0 0, .int .i64 (srE y2_0 y2_1 lcf)]) hF hM (by kernel_rfl) (yld_call (f := 20) (args := #[.agg #[.int .i64 y2_0, .int .i64 y2_1], .slice AA7 lcf.length cc7]) hF (by kernel_rfl) (fun _ => by kernel_rfl) (fun w hM => rRun34_bad y2_0 y2_1 AA7 lcf _ w (ro_of_own (hM.ok 11 _ rfl)) hz6)) fun a w hF hM => ?_)
              refine sB 5 [(52, .tuple #[.slice none 0 0, .int .i64 (srE y2_0 y2_1 lcf)]), (56, .slice none 0 0), (57, .int .i64 (srE y2_0 y2_1 lcf)), (15, .slice none 0 0), (16, .int .i64 (srE y2_0 y2_1 lcf))] hF (by kernel_rfl) fun a hF => ?_
              refine wpList_nil ?_
              refine hK58 _ _ ?_
              refine wp_seq_k fun K59 hK59 => ?_
              refine wp_region_lit ?_
              refine sB 2 [(58, .int .i64 (srE y2_0 y2_1 lcf)), (59, .int .i64 (srE y2_0 y2_1 lcf))] hF (by kernel_rfl) fun a hF => ?_
              refine wl (eP 60 (v0 := .bool (!decide (srE y2_0 y2_1 lcf = srE y2_0 y2_1 lcf))) (v := .bool false) hF (by kernel_rfl) (fun _ => by kernel_rfl) (nT (by omega)) fun a hF => ?_)
              refine sB 3 [(61, .bool false), (62, .slice none 0 0), (63, .slice none 0 0)] hF (by kernel_rfl) fun a hF => ?_
              refine wl (eM 64 (v := .bool true) hF hM (by kernel_rfl) (yld_call (f := 21) (args := #[.slice none 0 0, .slice none 0 0]) hF (by kernel_rfl) (fun _ => by kernel_rfl) (fun w hM => same_yes none ([] : List Int) 0 none ([] : List Int) 0 w Ro.nil Ro.nil (by decide) (by decide))) fun a w hF hM => ?_)
              refine sB 2 [(65, .bool false), (66, .bool false)] hF (by kernel_rfl) fun a hF => ?_
              refine wpList_nil ?_
              refine hK59 _ _ ?_
              refine cF hF (by kernel_rfl) (by kernel_rfl) ?_
              refine wp_skip ?_
              refine hK50 _ _ ?_
              refine wp_region_lit ?_
              refine wl (eP 67 (v0 := .int .i64 (IntKind.i64.wrap (2 + 1))) (v := .int .i64 3) hF (by kernel_rfl) (fun _ => by kernel_rfl) (vi (by decide)) fun a hF => ?_)
              refine sB 1 [(43, .int .i64 3)] hF (by kernel_rfl) fun a hF => ?_
              refine wpList_nil ?_
              refine hK47 _ _ ?_
              refine rounds_k fun K60 hK60 => ?_
              refine wp_seq_k fun K61 hK61 => ?_
              refine wp_region_lit ?_
              refine wl (eP 44 (v0 := .bool (decide (3 < 3))) (v := .bool false) hF (by kernel_rfl) (fun _ => by kernel_rfl) (bF (by omega)) fun a hF => ?_)
              refine wpList_nil ?_
              refine hK61 _ _ ?_
              refine wp_seq_k fun K62 hK62 => ?_
              refine cF hF (by kernel_rfl) (by kernel_rfl) ?_
              refine wp_exit ?_
              refine hK10 _ _ ?_
              refine wp_region_lit ?_
              refine wl (eP 68 (v0 := .int .i64 (IntKind.i64.wrap ((k34 : Int) + 1))) (v := .int .i64 ((k34 : Int) + 1)) hF (by kernel_rfl) (fun _ => by kernel_rfl) (wi (by omega)) fun a hF => ?_)
              refine sB 1 [(34, .int .i64 ((k34 : Int) + 1))] hF (by kernel_rfl) fun a hF => ?_
              refine wpList_nil ?_
              refine hK7 _ _ ⟨(k34 + 1), ⟨(((((Fr.nil hF).c hF (i := 33) rfl rfl).c hF (i := 5) rfl rfl).c hF (i := 1) rfl rfl).c hF (i := 34) rfl (vi (show ((k34 : Int) + 1 : Int) = ((k34 + 1) : Int) from by omega))), (hM.sub (((((Sub.nil.c (k := 6) rfl rfl).c (k := 5) rfl rfl).c (k := 3) rfl rfl).c (k := 2) rfl rfl).c (k := 1) rfl rfl)), (show ((k34 + 1) : Int) ≤ 3 from by omega)⟩, (show 3 - (k34 + 1) < 3 - k34 from by omega)⟩
        · skip
          refine wp_region_lit ?_
          refine wl (eL 47 9 0 (v := .agg #[.int .i64 y2_0, .int .i64 y2_1]) hF hM (by kernel_rfl) rfl rfl (by kernel_rfl) (by kernel_rfl) fun a w hF hM => ?_)
          refine sB 1 [(48, .slice A lsl.length c)] hF (by kernel_rfl) fun a hF => ?_
          refine wl (eM 49 (v := .tuple #[.slice none 0 0, .int .i64 (srE y2_0 y2_1 lsl)]) hF hM (by kernel_rfl) (yld_call (f := 19) (args := #[.agg #[.int .i64 y2_0, .int .i64 y2_1], .slice A lsl.length c]) hF (by kernel_rfl) (fun _ => by kernel_rfl) (fun w hM => shRun_bad y2_0 y2_1 A lsl _ w (hM.ok 6 _ rfl) hz3)) fun a w hF hM => ?_)
          refine sB 5 [(46, .tuple #[.slice none 0 0, .int .i64 (srE y2_0 y2_1 lsl)]), (50, .slice none 0 0), (51, .int .i64 (srE y2_0 y2_1 lsl)), (13, .slice none 0 0), (14, .int .i64 (srE y2_0 y2_1 lsl))] hF (by kernel_rfl) fun a hF => ?_
          refine wpList_nil ?_
          refine hK18 _ _ ?_
          refine wp_seq_k fun K63 hK63 => ?_
          refine wp_region_lit ?_
          refine wl (eL 53 9 0 (v := .agg #[.int .i64 y2_0, .int .i64 y2_1]) hF hM (by kernel_rfl) rfl rfl (by kernel_rfl) (by kernel_rfl) fun a w hF hM => ?_)
          refine sB 1 [(54, .slice A lsl.length c)] hF (by kernel_rfl) fun a hF => ?_
          refine wl (eM 55 (v := .tuple #[.slice none 0 0, .int .i64 (srE y2_0 y2_1 lsl)]) hF hM (by kernel_rfl) (yld_call (f := 20) (args := #[.agg #[.int .i64 y2_0, .int .i64 y2_1], .slice A lsl.length c]) hF (by kernel_rfl) (fun _ => by kernel_rfl) (fun w hM => rRun34_bad y2_0 y2_1 A lsl _ w (hM.ok 6 _ rfl) hz3)) fun a w hF hM => ?_)
          refine sB 5 [(52, .tuple #[.slice none 0 0, .int .i64 (srE y2_0 y2_1 lsl)]), (56, .slice none 0 0), (57, .int .i64 (srE y2_0 y2_1 lsl)), (15, .slice none 0 0), (16, .int .i64 (srE y2_0 y2_1 lsl))] hF (by kernel_rfl) fun a hF => ?_
          refine wpList_nil ?_
          refine hK63 _ _ ?_
          refine wp_seq_k fun K64 hK64 => ?_
          refine wp_region_lit ?_
          refine sB 2 [(58, .int .i64 (srE y2_0 y2_1 lsl)), (59, .int .i64 (srE y2_0 y2_1 lsl))] hF (by kernel_rfl) fun a hF => ?_
          refine wl (eP 60 (v0 := .bool (!decide (srE y2_0 y2_1 lsl = srE y2_0 y2_1 lsl))) (v := .bool false) hF (by kernel_rfl) (fun _ => by kernel_rfl) (nT (by omega)) fun a hF => ?_)
          refine sB 3 [(61, .bool false), (62, .slice none 0 0), (63, .slice none 0 0)] hF (by kernel_rfl) fun a hF => ?_
          refine wl (eM 64 (v := .bool true) hF hM (by kernel_rfl) (yld_call (f := 21) (args := #[.slice none 0 0, .slice none 0 0]) hF (by kernel_rfl) (fun _ => by kernel_rfl) (fun w hM => same_yes none ([] : List Int) 0 none ([] : List Int) 0 w Ro.nil Ro.nil (by decide) (by decide))) fun a w hF hM => ?_)
          refine sB 2 [(65, .bool false), (66, .bool false)] hF (by kernel_rfl) fun a hF => ?_
          refine wpList_nil ?_
          refine hK64 _ _ ?_
          refine cF hF (by kernel_rfl) (by kernel_rfl) ?_
          refine wp_skip ?_
          refine hK16 _ _ ?_
          refine wp_region_lit ?_
          refine wl (eP 67 (v0 := .int .i64 (IntKind.i64.wrap (0 + 1))) (v := .int .i64 1) hF (by kernel_rfl) (fun _ => by kernel_rfl) (vi (by decide)) fun a hF => ?_)
          refine sB 1 [(43, .int .i64 1)] hF (by kernel_rfl) fun a hF => ?_
          refine wpList_nil ?_
          refine hK13 _ _ ?_
          refine rounds_k fun K65 hK65 => ?_
          refine wp_seq_k fun K66 hK66 => ?_
          refine wp_region_lit ?_
          refine wl (eP 44 (v0 := .bool (decide (1 < 3))) (v := .bool true) hF (by kernel_rfl) (fun _ => by kernel_rfl) (bT (by omega)) fun a hF => ?_)
          refine wpList_nil ?_
          refine hK66 _ _ ?_
          refine wp_seq_k fun K67 hK67 => ?_
          refine cT hF (by kernel_rfl) (by kernel_rfl) ?_
          refine wp_skip ?_
          refine hK67 _ _ ?_
          refine wp_seq_k fun K68 hK68 => ?_
          refine wp_block ?_
          refine wp_seq_k fun K69 hK69 => ?_
          refine wp_region_lit ?_
          refine sB 2 [(45, .slice AA6 ltr.length cc6), (12, .slice AA6 ltr.length cc6)] hF (by kernel_rfl) fun a hF => ?_
          refine wpList_nil ?_
          refine hK69 _ _ ?_
          refine wp_seq_k fun K70 hK70 => ?_
          by_cases hz7 : srE y2_0 y2_1 ltr = 0
          · skip
            refine wp_region_lit ?_
            refine wl (eL 47 9 0 (v := .agg #[.int .i64 y2_0, .int .i64 y2_1]) hF hM (by kernel_rfl) rfl rfl (by kernel_rfl) (by kernel_rfl) fun a w hF hM => ?_)
            refine sB 1 [(48, .slice AA6 ltr.length cc6)] hF (by kernel_rfl) fun a hF => ?_
            have := shUp_length y2_0 y2_1 ltr ltr.length
            refine wl (sOwn 20 (f := 19) (args := #[.agg #[.int .i64 y2_0, .int .i64 y2_1], .slice AA6 ltr.length cc6]) (mk := fun v => .tuple #[v, .int .i64 0]) (e := 3) (size := 1) (m := ltr.length) (xs := ((shUp y2_0 y2_1 ltr ltr.length).map (Value.int .i64))) hF hM (by kernel_rfl) rfl (by decide) (by kernel_rfl) (fun _ => by kernel_rfl) (shRun_ok y2_0 y2_1 AA6 ltr _ w (ro_of_own (hM.ok 10 _ rfl)) hz7) fun AA16 cc16 a w hF hM => ?_)
            refine sB 5 [(46, .tuple #[.slice AA16 ltr.length cc16, .int .i64 0]), (50, .slice AA16 ltr.length cc16), (51, .int .i64 0), (13, .slice AA16 ltr.length cc16), (14, .int .i64 0)] hF (by kernel_rfl) fun a hF => ?_
            refine wpList_nil ?_
            refine hK70 _ _ ?_
            refine wp_seq_k fun K71 hK71 => ?_
            refine wp_region_lit ?_
            refine wl (eL 53 9 0 (v := .agg #[.int .i64 y2_0, .int .i64 y2_1]) hF hM (by kernel_rfl) rfl rfl (by kernel_rfl) (by kernel_rfl) fun a w hF hM => ?_)
            refine sB 1 [(54, .slice AA6 ltr.length cc6)] hF (by kernel_rfl) fun a hF => ?_
            have := shUp_length y2_0 y2_1 ltr ltr.length
            refine wl (sOwn 21 (f := 20) (args := #[.agg #[.int .i64 y2_0, .int .i64 y2_1], .slice AA6 ltr.length cc6]) (mk := fun v => .tuple #[v, .int .i64 0]) (e := 3) (size := 1) (m := ltr.length) (xs := ((shUp y2_0 y2_1 ltr ltr.length).map (Value.int .i64))) hF hM (by kernel_rfl) rfl (by decide) (by kernel_rfl) (fun _ => by kernel_rfl) (rRun34_ok y2_0 y2_1 AA6 ltr _ w (ro_of_own (hM.ok 10 _ rfl)) hz7) fun AA17 cc17 a w hF hM => ?_)
            refine sB 5 [(52, .tuple #[.slice AA17 ltr.length cc17, .int .i64 0]), (56, .slice AA17 ltr.length cc17), (57, .int .i64 0), (15, .slice AA17 ltr.length cc17), (16, .int .i64 0)] hF (by kernel_rfl) fun a hF => ?_
            refine wpList_nil ?_
            refine hK71 _ _ ?_
            refine wp_seq_k fun K72 hK72 => ?_
            refine wp_region_lit ?_
            refine sB 2 [(58, .int .i64 0), (59, .int .i64 0)] hF (by kernel_rfl) fun a hF => ?_
            refine wl (eP 60 (v0 := .bool (!decide (0 = 0))) (v := .bool false) hF (by kernel_rfl) (fun _ => by kernel_rfl) (nT (by omega)) fun a hF => ?_)
            refine sB 3 [(61, .bool false), (62, .slice AA16 ltr.length cc16), (63, .slice AA17 ltr.length cc17)] hF (by kernel_rfl) fun a hF => ?_
            refine wl (eM 64 (v := .bool true) hF hM (by kernel_rfl) (yld_call (f := 21) (args := #[.slice AA16 ltr.length cc16, .slice AA17 ltr.length cc17]) hF (by kernel_rfl) (fun _ => by kernel_rfl) (fun w hM => (by rw [show ltr.length = (shUp y2_0 y2_1 ltr ltr.length).length from by first | omega | (simp; done)]; exact same_yes AA16 (shUp y2_0 y2_1 ltr ltr.length) cc16 AA17 (shUp y2_0 y2_1 ltr ltr.length) cc17 w (ro_of_own (hM.ok 20 _ rfl)) (ro_of_own (hM.ok 21 _ rfl)) (by omega) rfl))) fun a w hF hM => ?_)
            refine sB 2 [(65, .bool false), (66, .bool false)] hF (by kernel_rfl) fun a hF => ?_
            refine wpList_nil ?_
            refine hK72 _ _ ?_
            refine cF hF (by kernel_rfl) (by kernel_rfl) ?_
            refine wp_skip ?_
            refine hK68 _ _ ?_
            refine wp_region_lit ?_
            refine wl (eP 67 (v0 := .int .i64 (IntKind.i64.wrap (1 + 1))) (v := .int .i64 2) hF (by kernel_rfl) (fun _ => by kernel_rfl) (vi (by decide)) fun a hF => ?_)
            refine sB 1 [(43, .int .i64 2)] hF (by kernel_rfl) fun a hF => ?_
            refine wpList_nil ?_
            refine hK65 _ _ ?_
            refine rounds_k fun K73 hK73 => ?_
            refine wp_seq_k fun K74 hK74 => ?_
            refine wp_region_lit ?_
            refine wl (eP 44 (v0 := .bool (decide (2 < 3))) (v := .bool true) hF (by kernel_rfl) (fun _ => by kernel_rfl) (bT (by omega)) fun a hF => ?_)
            refine wpList_nil ?_
            refine hK74 _ _ ?_
            refine wp_seq_k fun K75 hK75 => ?_
            refine cT hF (by kernel_rfl) (by kernel_rfl) ?_
            refine wp_skip ?_
            refine hK75 _ _ ?_
            refine wp_seq_k fun K76 hK76 => ?_
            refine wp_block ?_
            refine wp_seq_k fun K77 hK77 => ?_
            refine wp_region_lit ?_
            refine sB 2 [(45, .slice AA7 lcf.length cc7), (12, .slice AA7 lcf.length cc7)] hF (by kernel_rfl) fun a hF => ?_
            refine wpList_nil ?_
            refine hK77 _ _ ?_
            refine wp_seq_k fun K78 hK78 => ?_
            by_cases hz8 : srE y2_0 y2_1 lcf = 0
            · skip
              refine wp_region_lit ?_
              refine wl (eL 47 9 0 (v := .agg #[.int .i64 y2_0, .int .i64 y2_1]) hF hM (by kernel_rfl) rfl rfl (by kernel_rfl) (by kernel_rfl) fun a w hF hM => ?_)
              refine sB 1 [(48, .slice AA7 lcf.length cc7)] hF (by kernel_rfl) fun a hF => ?_
              have := shUp_length y2_0 y2_1 lcf lcf.length
              refine wl (sOwn 22 (f := 19) (args := #[.agg #[.int .i64 y2_0, .int .i64 y2_1], .slice AA7 lcf.length cc7]) (mk := fun v => .tuple #[v, .int .i64 0]) (e := 3) (size := 1) (m := lcf.length) (xs := ((shUp y2_0 y2_1 lcf lcf.length).map (Value.int .i64))) hF hM (by kernel_rfl) rfl (by decide) (by kernel_rfl) (fun _ => by kernel_rfl) (shRun_ok y2_0 y2_1 AA7 lcf _ w (ro_of_own (hM.ok 11 _ rfl)) hz8) fun AA18 cc18 a w hF hM => ?_)
              refine sB 5 [(46, .tuple #[.slice AA18 lcf.length cc18, .int .i64 0]), (50, .slice AA18 lcf.length cc18), (51, .int .i64 0), (13, .slice AA18 lcf.length cc18), (14, .int .i64 0)] hF (by kernel_rfl) fun a hF => ?_
              refine wpList_nil ?_
              refine hK78 _ _ ?_
              refine wp_seq_k fun K79 hK79 => ?_
              refine wp_region_lit ?_
              refine wl (eL 53 9 0 (v := .agg #[.int .i64 y2_0, .int .i64 y2_1]) hF hM (by kernel_rfl) rfl rfl (by kernel_rfl) (by kernel_rfl) fun a w hF hM => ?_)
              refine sB 1 [(54, .slice AA7 lcf.length cc7)] hF (by kernel_rfl) fun a hF => ?_
              have := shUp_length y2_0 y2_1 lcf lcf.length
              refine wl (sOwn 23 (f := 20) (args := #[.agg #[.int .i64 y2_0, .int .i64 y2_1], .slice AA7 lcf.length cc7]) (mk := fun v => .tuple #[v, .int .i64 0]) (e := 3) (size := 1) (m := lcf.length) (xs := ((shUp y2_0 y2_1 lcf lcf.length).map (Value.int .i64))) hF hM (by kernel_rfl) rfl (by decide) (by kernel_rfl) (fun _ => by kernel_rfl) (rRun34_ok y2_0 y2_1 AA7 lcf _ w (ro_of_own (hM.ok 11 _ rfl)) hz8) fun AA19 cc19 a w hF hM => ?_)
              refine sB 5 [(52, .tuple #[.slice AA19 lcf.length cc19, .int .i64 0]), (56, .slice AA19 lcf.length cc19), (57, .int .i64 0), (15, .slice AA19 lcf.length cc19), (16, .int .i64 0)] hF (by kernel_rfl) fun a hF => ?_
              refine wpList_nil ?_
              refine hK79 _ _ ?_
              refine wp_seq_k fun K80 hK80 => ?_
              refine wp_region_lit ?_
              refine sB 2 [(58, .int .i64 0), (59, .int .i64 0)] hF (by kernel_rfl) fun a hF => ?_
              refine wl (eP 60 (v0 := .bool (!decide (0 = 0))) (v := .bool false) hF (by kernel_rfl) (fun _ => by kernel_rfl) (nT (by omega)) fun a hF => ?_)
              refine sB 3 [(61, .bool false), (62, .slice AA18 lcf.length cc18), (63, .slice AA19 lcf.length cc19)] hF (by kernel_rfl) fun a hF => ?_
              refine wl (eM 64 (v := .bool true) hF hM (by kernel_rfl) (yld_call (f := 21) (args := #[.slice AA18 lcf.length cc18, .slice AA19 lcf.length cc19]) hF (by kernel_rfl) (fun _ => by kernel_rfl) (fun w hM => (by rw [show lcf.length = (shUp y2_0 y2_1 lcf lcf.length).length from by first | omega | (simp; done)]; exact same_yes AA18 (shUp y2_0 y2_1 lcf lcf.length) cc18 AA19 (shUp y2_0 y2_1 lcf lcf.length) cc19 w (ro_of_own (hM.ok 22 _ rfl)) (ro_of_own (hM.ok 23 _ rfl)) (by omega) rfl))) fun a w hF hM => ?_)
              refine sB 2 [(65, .bool false), (66, .bool false)] hF (by kernel_rfl) fun a hF => ?_
              refine wpList_nil ?_
              refine hK80 _ _ ?_
              refine cF hF (by kernel_rfl) (by kernel_rfl) ?_
              refine wp_skip ?_
              refine hK76 _ _ ?_
              refine wp_region_lit ?_
              refine wl (eP 67 (v0 := .int .i64 (IntKind.i64.wrap (2 + 1))) (v := .int .i64 3) hF (by kernel_rfl) (fun _ => by kernel_rfl) (vi (by decide)) fun a hF => ?_)
              refine sB 1 [(43, .int .i64 3)] hF (by kernel_rfl) fun a hF => ?_
              refine wpList_nil ?_
              refine hK73 _ _ ?_
              refine rounds_k fun K81 hK81 => ?_
              refine wp_seq_k fun K82 hK82 => ?_
              refine wp_region_lit ?_
              refine wl (eP 44 (v0 := .bool (decide (3 < 3))) (v := .bool false) hF (by kernel_rfl) (fun _ => by kernel_rfl) (bF (by omega)) fun a hF => ?_)
              refine wpList_nil ?_
              refine hK82 _ _ ?_
              refine wp_seq_k fun K83 hK83 => ?_
              refine cF hF (by kernel_rfl) (by kernel_rfl) ?_
              refine wp_exit ?_
              refine hK10 _ _ ?_
              refine wp_region_lit ?_
              refine wl (eP 68 (v0 := .int .i64 (IntKind.i64.wrap ((k34 : Int) + 1))) (v := .int .i64 ((k34 : Int) + 1)) hF (by kernel_rfl) (fun _ => by kernel_rfl) (wi (by omega)) fun a hF => ?_)
              refine sB 1 [(34, .int .i64 ((k34 : Int) + 1))] hF (by kernel_rfl) fun a hF => ?_
              refine wpList_nil ?_
              refine hK7 _ _ ⟨(k34 + 1), ⟨(((((Fr.nil hF).c hF (i := 33) rfl rfl).c hF (i := 5) rfl rfl).c hF (i := 1) rfl rfl).c hF (i := 34) rfl (vi (show ((k34 : Int) + 1 : Int) = ((k34 + 1) : Int) from by omega))), (hM.sub (((((Sub.nil.c (k := 6) rfl rfl).c (k := 5) rfl rfl).c (k := 3) rfl rfl).c (k := 2) rfl rfl).c (k := 1) rfl rfl)), (show ((k34 + 1) : Int) ≤ 3 from by omega)⟩, (show 3 - (k34 + 1) < 3 - k34 from by omega)⟩
            · skip
              refine wp_region_lit ?_
              refine wl (eL 47 9 0 (v := .agg #[.int .i64 y2_0, .int .i64 y2_1]) hF hM (by kernel_rfl) rfl rfl (by kernel_rfl) (by kernel_rfl) fun a w hF hM => ?_)
              refine sB 1 [(48, .slice AA7 lcf.length cc7)] hF (by kernel_rfl) fun a hF => ?_
              refine wl (eM 49 (v := .tuple #[.slice none 0 0, .int .i64 (srE y2_0 y2_1 lcf)]) hF hM (by kernel_rfl) (yld_call (f := 19) (args := #[.agg #[.int .i64 y2_0, .int .i64 y2_1], .slice AA7 lcf.length cc7]) hF (by kernel_rfl) (fun _ => by kernel_rfl) (fun w hM => shRun_bad y2_0 y2_1 AA7 lcf _ w (ro_of_own (hM.ok 11 _ rfl)) hz8)) fun a w hF hM => ?_)
              refine sB 5 [(46, .tuple #[.slice none 0 0, .int .i64 (srE y2_0 y2_1 lcf)]), (50, .slice none 0 0), (51, .int .i64 (srE y2_0 y2_1 lcf)), (13, .slice none 0 0), (14, .int .i64 (srE y2_0 y2_1 lcf))] hF (by kernel_rfl) fun a hF => ?_
              refine wpList_nil ?_
              refine hK78 _ _ ?_
              refine wp_seq_k fun K84 hK84 => ?_
              refine wp_region_lit ?_
              refine wl (eL 53 9 0 (v := .agg #[.int .i64 y2_0, .int .i64 y2_1]) hF hM (by kernel_rfl) rfl rfl (by kernel_rfl) (by kernel_rfl) fun a w hF hM => ?_)
              refine sB 1 [(54, .slice AA7 lcf.length cc7)] hF (by kernel_rfl) fun a hF => ?_
              refine wl (eM 55 (v := .tuple #[.slice none 0 0, .int .i64 (srE y2_0 y2_1 lcf)]) hF hM (by kernel_rfl) (yld_call (f := 20) (args := #[.agg #[.int .i64 y2_0, .int .i64 y2_1], .slice AA7 lcf.length cc7]) hF (by kernel_rfl) (fun _ => by kernel_rfl) (fun w hM => rRun34_bad y2_0 y2_1 AA7 lcf _ w (ro_of_own (hM.ok 11 _ rfl)) hz8)) fun a w hF hM => ?_)
              refine sB 5 [(52, .tuple #[.slice none 0 0, .int .i64 (srE y2_0 y2_1 lcf)]), (56, .slice none 0 0), (57, .int .i64 (srE y2_0 y2_1 lcf)), (15, .slice none 0 0), (16, .int .i64 (srE y2_0 y2_1 lcf))] hF (by kernel_rfl) fun a hF => ?_
              refine wpList_nil ?_
              refine hK84 _ _ ?_
              refine wp_seq_k fun K85 hK85 => ?_
              refine wp_region_lit ?_
              refine sB 2 [(58, .int .i64 (srE y2_0 y2_1 lcf)), (59, .int .i64 (srE y2_0 y2_1 lcf))] hF (by kernel_rfl) fun a hF => ?_
              refine wl (eP 60 (v0 := .bool (!decide (srE y2_0 y2_1 lcf = srE y2_0 y2_1 lcf))) (v := .bool false) hF (by kernel_rfl) (fun _ => by kernel_rfl) (nT (by omega)) fun a hF => ?_)
              refine sB 3 [(61, .bool false), (62, .slice none 0 0), (63, .slice none 0 0)] hF (by kernel_rfl) fun a hF => ?_
              refine wl (eM 64 (v := .bool true) hF hM (by kernel_rfl) (yld_call (f := 21) (args := #[.slice none 0 0, .slice none 0 0]) hF (by kernel_rfl) (fun _ => by kernel_rfl) (fun w hM => same_yes none ([] : List Int) 0 none ([] : List Int) 0 w Ro.nil Ro.nil (by decide) (by decide))) fun a w hF hM => ?_)
              refine sB 2 [(65, .bool false), (66, .bool false)] hF (by kernel_rfl) fun a hF => ?_
              refine wpList_nil ?_
              refine hK85 _ _ ?_
              refine cF hF (by kernel_rfl) (by kernel_rfl) ?_
              refine wp_skip ?_
              refine hK76 _ _ ?_
              refine wp_region_lit ?_
              refine wl (eP 67 (v0 := .int .i64 (IntKind.i64.wrap (2 + 1))) (v := .int .i64 3) hF (by kernel_rfl) (fun _ => by kernel_rfl) (vi (by decide)) fun a hF => ?_)
              refine sB 1 [(43, .int .i64 3)] hF (by kernel_rfl) fun a hF => ?_
              refine wpList_nil ?_
              refine hK73 _ _ ?_
              refine rounds_k fun K86 hK86 => ?_
              refine wp_seq_k fun K87 hK87 => ?_
              refine wp_region_lit ?_
              refine wl (eP 44 (v0 := .bool (decide (3 < 3))) (v := .bool false) hF (by kernel_rfl) (fun _ => by kernel_rfl) (bF (by omega)) fun a hF => ?_)
              refine wpList_nil ?_
              refine hK87 _ _ ?_
              refine wp_seq_k fun K88 hK88 => ?_
              refine cF hF (by kernel_rfl) (by kernel_rfl) ?_
              refine wp_exit ?_
              refine hK10 _ _ ?_
              refine wp_region_lit ?_
              refine wl (eP 68 (v0 := .int .i64 (IntKind.i64.wrap ((k34 : Int) + 1))) (v := .int .i64 ((k34 : Int) + 1)) hF (by kernel_rfl) (fun _ => by kernel_rfl) (wi (by omega)) fun a hF => ?_)
              refine sB 1 [(34, .int .i64 ((k34 : Int) + 1))] hF (by kernel_rfl) fun a hF => ?_
              refine wpList_nil ?_
              refine hK7 _ _ ⟨(k34 + 1), ⟨(((((Fr.nil hF).c hF (i := 33) rfl rfl).c hF (i := 5) rfl rfl).c hF (i := 1) rfl rfl).c hF (i := 34) rfl (vi (show ((k34 : Int) + 1 : Int) = ((k34 + 1) : Int) from by omega))), (hM.sub (((((Sub.nil.c (k := 6) rfl rfl).c (k := 5) rfl rfl).c (k := 3) rfl rfl).c (k := 2) rfl rfl).c (k := 1) rfl rfl)), (show ((k34 + 1) : Int) ≤ 3 from by omega)⟩, (show 3 - (k34 + 1) < 3 - k34 from by omega)⟩
          · skip
            refine wp_region_lit ?_
            refine wl (eL 47 9 0 (v := .agg #[.int .i64 y2_0, .int .i64 y2_1]) hF hM (by kernel_rfl) rfl rfl (by kernel_rfl) (by kernel_rfl) fun a w hF hM => ?_)
            refine sB 1 [(48, .slice AA6 ltr.length cc6)] hF (by kernel_rfl) fun a hF => ?_
            refine wl (eM 49 (v := .tuple #[.slice none 0 0, .int .i64 (srE y2_0 y2_1 ltr)]) hF hM (by kernel_rfl) (yld_call (f := 19) (args := #[.agg #[.int .i64 y2_0, .int .i64 y2_1], .slice AA6 ltr.length cc6]) hF (by kernel_rfl) (fun _ => by kernel_rfl) (fun w hM => shRun_bad y2_0 y2_1 AA6 ltr _ w (ro_of_own (hM.ok 10 _ rfl)) hz7)) fun a w hF hM => ?_)
            refine sB 5 [(46, .tuple #[.slice none 0 0, .int .i64 (srE y2_0 y2_1 ltr)]), (50, .slice none 0 0), (51, .int .i64 (srE y2_0 y2_1 ltr)), (13, .slice none 0 0), (14, .int .i64 (srE y2_0 y2_1 ltr))] hF (by kernel_rfl) fun a hF => ?_
            refine wpList_nil ?_
            refine hK70 _ _ ?_
            refine wp_seq_k fun K89 hK89 => ?_
            refine wp_region_lit ?_
            refine wl (eL 53 9 0 (v := .agg #[.int .i64 y2_0, .int .i64 y2_1]) hF hM (by kernel_rfl) rfl rfl (by kernel_rfl) (by kernel_rfl) fun a w hF hM => ?_)
            refine sB 1 [(54, .slice AA6 ltr.length cc6)] hF (by kernel_rfl) fun a hF => ?_
            refine wl (eM 55 (v := .tuple #[.slice none 0 0, .int .i64 (srE y2_0 y2_1 ltr)]) hF hM (by kernel_rfl) (yld_call (f := 20) (args := #[.agg #[.int .i64 y2_0, .int .i64 y2_1], .slice AA6 ltr.length cc6]) hF (by kernel_rfl) (fun _ => by kernel_rfl) (fun w hM => rRun34_bad y2_0 y2_1 AA6 ltr _ w (ro_of_own (hM.ok 10 _ rfl)) hz7)) fun a w hF hM => ?_)
            refine sB 5 [(52, .tuple #[.slice none 0 0, .int .i64 (srE y2_0 y2_1 ltr)]), (56, .slice none 0 0), (57, .int .i64 (srE y2_0 y2_1 ltr)), (15, .slice none 0 0), (16, .int .i64 (srE y2_0 y2_1 ltr))] hF (by kernel_rfl) fun a hF => ?_
            refine wpList_nil ?_
            refine hK89 _ _ ?_
            refine wp_seq_k fun K90 hK90 => ?_
            refine wp_region_lit ?_
            refine sB 2 [(58, .int .i64 (srE y2_0 y2_1 ltr)), (59, .int .i64 (srE y2_0 y2_1 ltr))] hF (by kernel_rfl) fun a hF => ?_
            refine wl (eP 60 (v0 := .bool (!decide (srE y2_0 y2_1 ltr = srE y2_0 y2_1 ltr))) (v := .bool false) hF (by kernel_rfl) (fun _ => by kernel_rfl) (nT (by omega)) fun a hF => ?_)
            refine sB 3 [(61, .bool false), (62, .slice none 0 0), (63, .slice none 0 0)] hF (by kernel_rfl) fun a hF => ?_
            refine wl (eM 64 (v := .bool true) hF hM (by kernel_rfl) (yld_call (f := 21) (args := #[.slice none 0 0, .slice none 0 0]) hF (by kernel_rfl) (fun _ => by kernel_rfl) (fun w hM => same_yes none ([] : List Int) 0 none ([] : List Int) 0 w Ro.nil Ro.nil (by decide) (by decide))) fun a w hF hM => ?_)
            refine sB 2 [(65, .bool false), (66, .bool false)] hF (by kernel_rfl) fun a hF => ?_
            refine wpList_nil ?_
            refine hK90 _ _ ?_
            refine cF hF (by kernel_rfl) (by kernel_rfl) ?_
            refine wp_skip ?_
            refine hK68 _ _ ?_
            refine wp_region_lit ?_
            refine wl (eP 67 (v0 := .int .i64 (IntKind.i64.wrap (1 + 1))) (v := .int .i64 2) hF (by kernel_rfl) (fun _ => by kernel_rfl) (vi (by decide)) fun a hF => ?_)
            refine sB 1 [(43, .int .i64 2)] hF (by kernel_rfl) fun a hF => ?_
            refine wpList_nil ?_
            refine hK65 _ _ ?_
            refine rounds_k fun K91 hK91 => ?_
            refine wp_seq_k fun K92 hK92 => ?_
            refine wp_region_lit ?_
            refine wl (eP 44 (v0 := .bool (decide (2 < 3))) (v := .bool true) hF (by kernel_rfl) (fun _ => by kernel_rfl) (bT (by omega)) fun a hF => ?_)
            refine wpList_nil ?_
            refine hK92 _ _ ?_
            refine wp_seq_k fun K93 hK93 => ?_
            refine cT hF (by kernel_rfl) (by kernel_rfl) ?_
            refine wp_skip ?_
            refine hK93 _ _ ?_
            refine wp_seq_k fun K94 hK94 => ?_
            refine wp_block ?_
            refine wp_seq_k fun K95 hK95 => ?_
            refine wp_region_lit ?_
            refine sB 2 [(45, .slice AA7 lcf.length cc7), (12, .slice AA7 lcf.length cc7)] hF (by kernel_rfl) fun a hF => ?_
            refine wpList_nil ?_
            refine hK95 _ _ ?_
            refine wp_seq_k fun K96 hK96 => ?_
            by_cases hz9 : srE y2_0 y2_1 lcf = 0
            · skip
              refine wp_region_lit ?_
              refine wl (eL 47 9 0 (v := .agg #[.int .i64 y2_0, .int .i64 y2_1]) hF hM (by kernel_rfl) rfl rfl (by kernel_rfl) (by kernel_rfl) fun a w hF hM => ?_)
              refine sB 1 [(48, .slice AA7 lcf.length cc7)] hF (by kernel_rfl) fun a hF => ?_
              have := shUp_length y2_0 y2_1 lcf lcf.length
              refine wl (sOwn 24 (f := 19) (args := #[.agg #[.int .i64 y2_0, .int .i64 y2_1], .slice AA7 lcf.length cc7]) (mk := fun v => .tuple #[v, .int .i64 0]) (e := 3) (size := 1) (m := lcf.length) (xs := ((shUp y2_0 y2_1 lcf lcf.length).map (Value.int .i64))) hF hM (by kernel_rfl) rfl (by decide) (by kernel_rfl) (fun _ => by kernel_rfl) (shRun_ok y2_0 y2_1 AA7 lcf _ w (ro_of_own (hM.ok 11 _ rfl)) hz9) fun AA20 cc20 a w hF hM => ?_)
              refine sB 5 [(46, .tuple #[.slice AA20 lcf.length cc20, .int .i64 0]), (50, .slice AA20 lcf.length cc20), (51, .int .i64 0), (13, .slice AA20 lcf.length cc20), (14, .int .i64 0)] hF (by kernel_rfl) fun a hF => ?_
              refine wpList_nil ?_
              refine hK96 _ _ ?_
              refine wp_seq_k fun K97 hK97 => ?_
              refine wp_region_lit ?_
              refine wl (eL 53 9 0 (v := .agg #[.int .i64 y2_0, .int .i64 y2_1]) hF hM (by kernel_rfl) rfl rfl (by kernel_rfl) (by kernel_rfl) fun a w hF hM => ?_)
              refine sB 1 [(54, .slice AA7 lcf.length cc7)] hF (by kernel_rfl) fun a hF => ?_
              have := shUp_length y2_0 y2_1 lcf lcf.length
              refine wl (sOwn 25 (f := 20) (args := #[.agg #[.int .i64 y2_0, .int .i64 y2_1], .slice AA7 lcf.length cc7]) (mk := fun v => .tuple #[v, .int .i64 0]) (e := 3) (size := 1) (m := lcf.length) (xs := ((shUp y2_0 y2_1 lcf lcf.length).map (Value.int .i64))) hF hM (by kernel_rfl) rfl (by decide) (by kernel_rfl) (fun _ => by kernel_rfl) (rRun34_ok y2_0 y2_1 AA7 lcf _ w (ro_of_own (hM.ok 11 _ rfl)) hz9) fun AA21 cc21 a w hF hM => ?_)
              refine sB 5 [(52, .tuple #[.slice AA21 lcf.length cc21, .int .i64 0]), (56, .slice AA21 lcf.length cc21), (57, .int .i64 0), (15, .slice AA21 lcf.length cc21), (16, .int .i64 0)] hF (by kernel_rfl) fun a hF => ?_
              refine wpList_nil ?_
              refine hK97 _ _ ?_
              refine wp_seq_k fun K98 hK98 => ?_
              refine wp_region_lit ?_
              refine sB 2 [(58, .int .i64 0), (59, .int .i64 0)] hF (by kernel_rfl) fun a hF => ?_
              refine wl (eP 60 (v0 := .bool (!decide (0 = 0))) (v := .bool false) hF (by kernel_rfl) (fun _ => by kernel_rfl) (nT (by omega)) fun a hF => ?_)
              refine sB 3 [(61, .bool false), (62, .slice AA20 lcf.length cc20), (63, .slice AA21 lcf.length cc21)] hF (by kernel_rfl) fun a hF => ?_
              refine wl (eM 64 (v := .bool true) hF hM (by kernel_rfl) (yld_call (f := 21) (args := #[.slice AA20 lcf.length cc20, .slice AA21 lcf.length cc21]) hF (by kernel_rfl) (fun _ => by kernel_rfl) (fun w hM => (by rw [show lcf.length = (shUp y2_0 y2_1 lcf lcf.length).length from by first | omega | (simp; done)]; exact same_yes AA20 (shUp y2_0 y2_1 lcf lcf.length) cc20 AA21 (shUp y2_0 y2_1 lcf lcf.length) cc21 w (ro_of_own (hM.ok 24 _ rfl)) (ro_of_own (hM.ok 25 _ rfl)) (by omega) rfl))) fun a w hF hM => ?_)
              refine sB 2 [(65, .bool false), (66, .bool false)] hF (by kernel_rfl) fun a hF => ?_
              refine wpList_nil ?_
              refine hK98 _ _ ?_
              refine cF hF (by kernel_rfl) (by kernel_rfl) ?_
              refine wp_skip ?_
              refine hK94 _ _ ?_
              refine wp_region_lit ?_
              refine wl (eP 67 (v0 := .int .i64 (IntKind.i64.wrap (2 + 1))) (v := .int .i64 3) hF (by kernel_rfl) (fun _ => by kernel_rfl) (vi (by decide)) fun a hF => ?_)
              refine sB 1 [(43, .int .i64 3)] hF (by kernel_rfl) fun a hF => ?_
              refine wpList_nil ?_
              refine hK91 _ _ ?_
              refine rounds_k fun K99 hK99 => ?_
              refine wp_seq_k fun K100 hK100 => ?_
              refine wp_region_lit ?_
              refine wl (eP 44 (v0 := .bool (decide (3 < 3))) (v := .bool false) hF (by kernel_rfl) (fun _ => by kernel_rfl) (bF (by omega)) fun a hF => ?_)
              refine wpList_nil ?_
              refine hK100 _ _ ?_
              refine wp_seq_k fun K101 hK101 => ?_
              refine cF hF (by kernel_rfl) (by kernel_rfl) ?_
              refine wp_exit ?_
              refine hK10 _ _ ?_
              refine wp_region_lit ?_
              refine wl (eP 68 (v0 := .int .i64 (IntKind.i64.wrap ((k34 : Int) + 1))) (v := .int .i64 ((k34 : Int) + 1)) hF (by kernel_rfl) (fun _ => by kernel_rfl) (wi (by omega)) fun a hF => ?_)
              refine sB 1 [(34, .int .i64 ((k34 : Int) + 1))] hF (by kernel_rfl) fun a hF => ?_
              refine wpList_nil ?_
              refine hK7 _ _ ⟨(k34 + 1), ⟨(((((Fr.nil hF).c hF (i := 33) rfl rfl).c hF (i := 5) rfl rfl).c hF (i := 1) rfl rfl).c hF (i := 34) rfl (vi (show ((k34 : Int) + 1 : Int) = ((k34 + 1) : Int) from by omega))), (hM.sub (((((Sub.nil.c (k := 6) rfl rfl).c (k := 5) rfl rfl).c (k := 3) rfl rfl).c (k := 2) rfl rfl).c (k := 1) rfl rfl)), (show ((k34 + 1) : Int) ≤ 3 from by omega)⟩, (show 3 - (k34 + 1) < 3 - k34 from by omega)⟩
            · skip
              refine wp_region_lit ?_
              refine wl (eL 47 9 0 (v := .agg #[.int .i64 y2_0, .int .i64 y2_1]) hF hM (by kernel_rfl) rfl rfl (by kernel_rfl) (by kernel_rfl) fun a w hF hM => ?_)
              refine sB 1 [(48, .slice AA7 lcf.length cc7)] hF (by kernel_rfl) fun a hF => ?_
              refine wl (eM 49 (v := .tuple #[.slice none 0 0, .int .i64 (srE y2_0 y2_1 lcf)]) hF hM (by kernel_rfl) (yld_call (f := 19) (args := #[.agg #[.int .i64 y2_0, .int .i64 y2_1], .slice AA7 lcf.length cc7]) hF (by kernel_rfl) (fun _ => by kernel_rfl) (fun w hM => shRun_bad y2_0 y2_1 AA7 lcf _ w (ro_of_own (hM.ok 11 _ rfl)) hz9)) fun a w hF hM => ?_)
              refine sB 5 [(46, .tuple #[.slice none 0 0, .int .i64 (srE y2_0 y2_1 lcf)]), (50, .slice none 0 0), (51, .int .i64 (srE y2_0 y2_1 lcf)), (13, .slice none 0 0), (14, .int .i64 (srE y2_0 y2_1 lcf))] hF (by kernel_rfl) fun a hF => ?_
              refine wpList_nil ?_
              refine hK96 _ _ ?_
              refine wp_seq_k fun K102 hK102 => ?_
              refine wp_region_lit ?_
              refine wl (eL 53 9 0 (v := .agg #[.int .i64 y2_0, .int .i64 y2_1]) hF hM (by kernel_rfl) rfl rfl (by kernel_rfl) (by kernel_rfl) fun a w hF hM => ?_)
              refine sB 1 [(54, .slice AA7 lcf.length cc7)] hF (by kernel_rfl) fun a hF => ?_
              refine wl (eM 55 (v := .tuple #[.slice none 0 0, .int .i64 (srE y2_0 y2_1 lcf)]) hF hM (by kernel_rfl) (yld_call (f := 20) (args := #[.agg #[.int .i64 y2_0, .int .i64 y2_1], .slice AA7 lcf.length cc7]) hF (by kernel_rfl) (fun _ => by kernel_rfl) (fun w hM => rRun34_bad y2_0 y2_1 AA7 lcf _ w (ro_of_own (hM.ok 11 _ rfl)) hz9)) fun a w hF hM => ?_)
              refine sB 5 [(52, .tuple #[.slice none 0 0, .int .i64 (srE y2_0 y2_1 lcf)]), (56, .slice none 0 0), (57, .int .i64 (srE y2_0 y2_1 lcf)), (15, .slice none 0 0), (16, .int .i64 (srE y2_0 y2_1 lcf))] hF (by kernel_rfl) fun a hF => ?_
              refine wpList_nil ?_
              refine hK102 _ _ ?_
              refine wp_seq_k fun K103 hK103 => ?_
              refine wp_region_lit ?_
              refine sB 2 [(58, .int .i64 (srE y2_0 y2_1 lcf)), (59, .int .i64 (srE y2_0 y2_1 lcf))] hF (by kernel_rfl) fun a hF => ?_
              refine wl (eP 60 (v0 := .bool (!decide (srE y2_0 y2_1 lcf = srE y2_0 y2_1 lcf))) (v := .bool false) hF (by kernel_rfl) (fun _ => by kernel_rfl) (nT (by omega)) fun a hF => ?_)
              refine sB 3 [(61, .bool false), (62, .slice none 0 0), (63, .slice none 0 0)] hF (by kernel_rfl) fun a hF => ?_
              refine wl (eM 64 (v := .bool true) hF hM (by kernel_rfl) (yld_call (f := 21) (args := #[.slice none 0 0, .slice none 0 0]) hF (by kernel_rfl) (fun _ => by kernel_rfl) (fun w hM => same_yes none ([] : List Int) 0 none ([] : List Int) 0 w Ro.nil Ro.nil (by decide) (by decide))) fun a w hF hM => ?_)
              refine sB 2 [(65, .bool false), (66, .bool false)] hF (by kernel_rfl) fun a hF => ?_
              refine wpList_nil ?_
              refine hK103 _ _ ?_
              refine cF hF (by kernel_rfl) (by kernel_rfl) ?_
              refine wp_skip ?_
              refine hK94 _ _ ?_
              refine wp_region_lit ?_
              refine wl (eP 67 (v0 := .int .i64 (IntKind.i64.wrap (2 + 1))) (v := .int .i64 3) hF (by kernel_rfl) (fun _ => by kernel_rfl) (vi (by decide)) fun a hF => ?_)
              refine sB 1 [(43, .int .i64 3)] hF (by kernel_rfl) fun a hF => ?_
              refine wpList_nil ?_
              refine hK91 _ _ ?_
              refine rounds_k fun K104 hK104 => ?_
              refine wp_seq_k fun K105 hK105 => ?_
              refine wp_region_lit ?_
              refine wl (eP 44 (v0 := .bool (decide (3 < 3))) (v := .bool false) hF (by kernel_rfl) (fun _ => by kernel_rfl) (bF (by omega)) fun a hF => ?_)
              refine wpList_nil ?_
              refine hK105 _ _ ?_
              refine wp_seq_k fun K106 hK106 => ?_
              refine cF hF (by kernel_rfl) (by kernel_rfl) ?_
              refine wp_exit ?_
              refine hK10 _ _ ?_
              refine wp_region_lit ?_
              refine wl (eP 68 (v0 := .int .i64 (IntKind.i64.wrap ((k34 : Int) + 1))) (v := .int .i64 ((k34 : Int) + 1)) hF (by kernel_rfl) (fun _ => by kernel_rfl) (wi (by omega)) fun a hF => ?_)
              refine sB 1 [(34, .int .i64 ((k34 : Int) + 1))] hF (by kernel_rfl) fun a hF => ?_
              refine wpList_nil ?_
              refine hK7 _ _ ⟨(k34 + 1), ⟨(((((Fr.nil hF).c hF (i := 33) rfl rfl).c hF (i := 5) rfl rfl).c hF (i := 1) rfl rfl).c hF (i := 34) rfl (vi (show ((k34 : Int) + 1 : Int) = ((k34 + 1) : Int) from by omega))), (hM.sub (((((Sub.nil.c (k := 6) rfl rfl).c (k := 5) rfl rfl).c (k := 3) rfl rfl).c (k := 2) rfl rfl).c (k := 1) rfl rfl)), (show ((k34 + 1) : Int) ≤ 3 from by omega)⟩, (show 3 - (k34 + 1) < 3 - k34 from by omega)⟩
    · skip
      replace hF := hF.c hF (i := 35) (v := .bool false) rfl (bF hz2)
      refine cF hF (by kernel_rfl) (by kernel_rfl) ?_
      refine wp_exit ?_
      refine hK5 _ _ ?_
      refine wp_seq_k fun K107 hK107 => ?_
      refine wp_region_lit ?_
      refine wl (eM 69 (v := .bool true) hF hM (by kernel_rfl) (yld_call (f := 16) (args := #[]) hF (by kernel_rfl) (fun _ => by kernel_rfl) (fun w hM => works34_w w)) fun a w hF hM => ?_)
      refine sB 1 [(6, .bool true)] hF (by kernel_rfl) fun a hF => ?_
      refine wpList_nil ?_
      refine hK107 _ _ ?_
      refine wp_ret ?_
      refine hR0 _ _ ?_
      refine ret_of hF hM (.tmp rfl (.nil)) ?_
      exact ⟨rfl, hM.bel⟩

end Go.Proofs.Ytaekcgapbkmepaa
