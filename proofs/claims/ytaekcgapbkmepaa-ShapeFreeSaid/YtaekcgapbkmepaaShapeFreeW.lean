/-
  The walk of ShapeFree.
-/
import Derived.Test.YtaekcgapbkmepaaShapeF
namespace Go.Proofs.Ytaekcgapbkmepaa
open Go.RowKit
set_option linter.unusedVariables false
set_option linter.unusedSimpArgs false

def All32' (l : List Int) : Prop := ∀ x ∈ l, 0 ≤ x ∧ x ≤ 4294967295
theorem all32_nt34 {l : List Int} (h : All32' l) (k : Nat) : 0 ≤ nt l k ∧ nt l k ≤ 4294967295 := by
  unfold nt
  rcases Nat.lt_or_ge k l.length with hk | hk
  · rw [List.getD_eq_getElem?_getD, List.getElem?_eq_getElem hk]
    exact h _ (List.getElem_mem hk)
  · rw [List.getD_eq_getElem?_getD, List.getElem?_eq_none hk]
    simp
set_option maxRecDepth 100000 in
set_option maxHeartbeats 8000000 in
theorem shapeFree_walk (bu ra : Int) (Ga : Option Addr) (gaps : List Int) (cg : Nat) (Sa : Option Addr) (sizes : List Int) (cs : Nat) (bo : Int) (Da : Option Addr) (dl : List Int) (cd : Nat) (w0 : World) (hGa : Ro w0 Ga (gaps.map (Value.int .u16))) (hSa : Ro w0 Sa (sizes.map (Value.int .u16))) (hg : All16 gaps) (hs : All16 sizes) (hmg : gaps.length ≤ 9223372036854775807) (hms : sizes.length ≤ 9223372036854775807) (h : 0 ≤ bu ∧ bu < 4294967296 ∧ 0 ≤ ra ∧ ra < 4294967296 ∧ 0 ≤ bo ∧ bo < 4294967296) (hD : Ro w0 Da (dl.map (Value.int .u32))) (hd32 : All32' dl) (hdm : dl.length ≤ 9223372036854775807) :
    Calls Try.prog 5 #[.agg #[.int .u32 bu, .int .u32 ra, .slice Ga gaps.length cg, .slice Sa sizes.length cs], .int .u32 bo, .slice Da dl.length cd] w0 (Ret w0 (.bool true)) := by
  obtain ⟨xb, hxb⟩ : ∃ z : Int, 1 + bu % 1048576 = z := ⟨_, rfl⟩
  obtain ⟨xq, hxq⟩ : ∃ z : Int, 1 + ra % 2097152 = z := ⟨_, rfl⟩
  have hbk : bkE xb xq = 0 := by unfold bkE; rw [if_pos]; omega
  obtain ⟨lk, hlk⟩ : ∃ z : List (Int × Int), cfDr bu ra gaps sizes = z := ⟨_, rfl⟩
  have hcf : cfB xb xq lk = true := by rw [← hlk, ← hxb, ← hxq]; exact cfTr_cf (by unfold bkE; omega) (dr_trE hg hs)
  have htr : trE lk = 0 := ckE_tr (cf_iff.1 hcf).1
  have hle : lk.length ≤ 30 := by rw [← hlk]; exact Nat.le_trans (cfTr_le (by unfold bkE; omega) (dr_trE hg hs)) (dr_le _ _)
  have hpr : ∀ k, k < lk.length → 0 ≤ (pr lk k).1 ∧ (pr lk k).1 ≤ 1966050 ∧ 1 ≤ (pr lk k).2 ∧ (pr lk k).2 ≤ 65536 := by rw [← hlk]; exact fun k hk => cfTr_pr (p := fun x => 0 ≤ x.1 ∧ x.1 ≤ 1966050 ∧ 1 ≤ x.2 ∧ x.2 ≤ 65536) (by unfold bkE; omega) (dr_trE hg hs) (fun j hj => dr_pr hg hs hj) hk
  obtain ⟨mo, hmo⟩ : ∃ z : Int, bo % 1073741824 = z := ⟨_, rfl⟩
  have hmo2 : 0 ≤ mo ∧ mo < 1073741824 := by omega
  have hdl : ∀ k, 0 ≤ nt dl k ∧ nt dl k ≤ 4294967295 := fun k => all32_nt34 hd32 k
  refine enterK 117 Try.func5 rfl rfl rfl ?_
  intro a hF Q0 hR0 hN0
  have hM := Mem.start w0
  replace hM := hM.addOld 1 hGa (Nat.le_refl _)
  replace hM := hM.addOld 2 hSa (Nat.le_refl _)
  replace hM := hM.addOld 3 hD (Nat.le_refl _)
  refine wp_seq_k fun K1 hK1 => ?_
  refine wp_region_lit ?_
  refine wl (eN 3 4 (t := 27) (fun b => .pointer (some ⟨b, 0, none⟩)) #[.int .u32 bu, .int .u32 ra, .slice Ga gaps.length cg, .slice Sa sizes.length cs] hF hM (by kernel_rfl) (fun _ => by kernel_rfl) fun bb1 a w hF hM => ?_)
  refine sB 1 [(6, .bool false)] hF (by kernel_rfl) fun a hF => ?_
  refine wpList_nil ?_
  refine hK1 _ _ ?_
  refine wp_seq_k fun K2 hK2 => ?_
  refine wp_seq_k fun K3 hK3 => ?_
  refine wp_region_lit ?_
  refine wl (eM 16 (v := .bool true) hF hM (by kernel_rfl) (yld_call (f := 16) (args := #[]) hF (by kernel_rfl) (fun _ => by kernel_rfl) (fun w hM => works34_w w)) fun a w hF hM => ?_)
  refine sB 1 [(17, .bool false)] hF (by kernel_rfl) fun a hF => ?_
  refine wpList_nil ?_
  refine hK3 _ _ ?_
  refine cF hF (by kernel_rfl) (by kernel_rfl) ?_
  refine wp_skip ?_
  refine hK2 _ _ ?_
  refine wp_seq_k fun K4 hK4 => ?_
  refine rF (by kernel_rfl) (by kernel_rfl) (fun S a w => ∃ AA2 : Option Addr, ∃ cc2 : Nat, ∃ bb3 : Nat, Fr 117 [(1, some (.int .u32 bo)), (2, some (.slice Da dl.length cd)), (3, some (.pointer (some ⟨bb1, 0, none⟩))), (6, some (.bool false)), (7, (cond (S.getD 4 false) (some (.pointer (some ⟨bb3, 0, none⟩))) none)), (8, (cond (S.getD 6 false) (some (.slice AA2 lk.length cc2)) none)), (18, (cond (S.getD 0 false) (some (.agg #[.int .u32 bu, .int .u32 ra, .slice Ga gaps.length cg, .slice Sa sizes.length cs])) none)), (19, (cond (S.getD 1 false) (some (.agg #[.int .i64 xb, .int .i64 xq])) none)), (20, (cond (S.getD 2 false) (some (.agg #[.int .u32 bu, .int .u32 ra, .slice Ga gaps.length cg, .slice Sa sizes.length cs])) none)), (21, (cond (S.getD 3 false) (some (.slice AA2 lk.length cc2)) none))] a ∧ Mem w0.heap.size w0 [(1, some (.ro Ga (gaps.map (Value.int .u16)))), (2, some (.ro Sa (sizes.map (Value.int .u16)))), (3, some (.ro Da (dl.map (Value.int .u32)))), (4, some (.row bb1 27 #[.int .u32 bu, .int .u32 ra, .slice Ga gaps.length cg, .slice Sa sizes.length cs])), (5, (cond (S.getD 3 false) (some (.own (.slice AA2 lk.length cc2) 31 2 lk.length (flat2 lk))) none)), (6, (cond (S.getD 5 false) (some (.row bb3 23 #[.int .i64 xb, .int .i64 xq])) (cond (S.getD 4 false) (some (.row bb3 23 #[.int .i64 0, .int .i64 0])) none)))] w) ?_ ?_ ?_
  · exact ⟨none, 0, 0, (((((((((((Fr.nil hF).co hF (i := 21) (by kernel_rfl)).co hF (i := 20) (by kernel_rfl)).co hF (i := 19) (by kernel_rfl)).co hF (i := 18) (by kernel_rfl)).co hF (i := 8) (by kernel_rfl)).co hF (i := 7) (by kernel_rfl)).co hF (i := 6) (by kernel_rfl)).co hF (i := 3) (by kernel_rfl)).co hF (i := 2) (by kernel_rfl)).co hF (i := 1) (by kernel_rfl)), hM.drew.sub ((((((Sub.nil.co (k := 6) (by kernel_rfl)).co (k := 5) (by kernel_rfl)).co (k := 4) (by kernel_rfl)).co (k := 3) (by kernel_rfl)).co (k := 2) (by kernel_rfl)).co (k := 1) (by kernel_rfl))⟩
  · refine stC ?_ (stC ?_ (stC ?_ (stC ?_ (stC ?_ (stC ?_ (stC ?_ (trivial)))))))
    · intro s0 s1 s2 s3 s4 s5 s6 hc hi hp a w hS
      obtain rfl : s0 = false := hi
      obtain ⟨AA2, cc2, bb3, hF, hM⟩ := hS
      refine eL 18 4 0 (v := .agg #[.int .u32 bu, .int .u32 ra, .slice Ga gaps.length cg, .slice Sa sizes.length cs]) hF hM (by kernel_rfl) rfl rfl (by kernel_rfl) (by kernel_rfl) fun a w hF hM => ?_
      exact ⟨AA2, cc2, bb3, ((hF.repl 6 (by kernel_rfl)).cast (by kernel_rfl)), (hM.cast (by kernel_rfl))⟩
    · intro s0 s1 s2 s3 s4 s5 s6 hc hi hp a w hS
      obtain rfl : s1 = false := hi
      obtain rfl : s0 = true := hp 0 (by kernel_rfl)
      obtain ⟨AA2, cc2, bb3, hF, hM⟩ := hS
      refine eM 19 (v := .agg #[.int .i64 xb, .int .i64 xq]) hF hM (by kernel_rfl) (yld_call (f := 9) (args := #[.agg #[.int .u32 bu, .int .u32 ra, .slice Ga gaps.length cg, .slice Sa sizes.length cs]]) hF (by kernel_rfl) (fun _ => by kernel_rfl) (fun w hM => agg_to hxb hxq (draftBucket_w bu ra (.slice Ga gaps.length cg) (.slice Sa sizes.length cs) w (by omega)))) fun a w hF hM => ?_
      exact ⟨AA2, cc2, bb3, ((hF.repl 7 (by kernel_rfl)).cast (by kernel_rfl)), (hM.cast (by kernel_rfl))⟩
    · intro s0 s1 s2 s3 s4 s5 s6 hc hi hp a w hS
      obtain rfl : s2 = false := hi
      obtain ⟨AA2, cc2, bb3, hF, hM⟩ := hS
      refine eL 20 4 0 (v := .agg #[.int .u32 bu, .int .u32 ra, .slice Ga gaps.length cg, .slice Sa sizes.length cs]) hF hM (by kernel_rfl) rfl rfl (by kernel_rfl) (by kernel_rfl) fun a w hF hM => ?_
      exact ⟨AA2, cc2, bb3, ((hF.repl 8 (by kernel_rfl)).cast (by kernel_rfl)), (hM.cast (by kernel_rfl))⟩
    · intro s0 s1 s2 s3 s4 s5 s6 hc hi hp a w hS
      obtain rfl : s3 = false := hi
      obtain rfl : s2 = true := hp 2 (by kernel_rfl)
      obtain rfl : s6 = false := hc.f 6 3 (by kernel_rfl) rfl
      obtain ⟨AA2, cc2, bb3, hF, hM⟩ := hS
      refine sOwn 5 (f := 18) (args := #[.agg #[.int .u32 bu, .int .u32 ra, .slice Ga gaps.length cg, .slice Sa sizes.length cs]]) (mk := fun v => v) (e := 31) (size := 2) (m := lk.length) (xs := (flat2 lk)) hF hM (by kernel_rfl) rfl (by decide) (by kernel_rfl) (fun _ => by kernel_rfl) (by rw [← hlk]; exact conforming_w bu ra Ga gaps cg Sa sizes cs w (hM.ok 1 _ rfl) (hM.ok 2 _ rfl) hg hs (by omega) (by omega) (by omega)) fun AA2 cc2 a w hF hM => ?_
      exact ⟨AA2, cc2, bb3, ((hF.repl 9 (by kernel_rfl)).cast (by kernel_rfl)), ((hM.repl 4 (by kernel_rfl)).cast (by kernel_rfl))⟩
    · intro s0 s1 s2 s3 s4 s5 s6 hc hi hp a w hS
      obtain rfl : s4 = false := hi
      obtain rfl : s5 = false := hc.f 5 4 (by kernel_rfl) rfl
      obtain ⟨AA2, cc2, bb3, hF, hM⟩ := hS
      refine eN 7 6 (t := 23) (fun b => .pointer (some ⟨b, 0, none⟩)) #[.int .i64 0, .int .i64 0] hF hM (by kernel_rfl) (fun _ => by kernel_rfl) fun bb3 a w hF hM => ?_
      exact ⟨AA2, cc2, bb3, ((hF.repl 4 (by kernel_rfl)).cast (by kernel_rfl)), ((hM.repl 5 (by kernel_rfl)).cast (by kernel_rfl))⟩
    · intro s0 s1 s2 s3 s4 s5 s6 hc hi hp a w hS
      obtain rfl : s5 = false := hi
      obtain rfl : s4 = true := hp 4 (by kernel_rfl)
      obtain rfl : s1 = true := hp 1 (by kernel_rfl)
      obtain ⟨AA2, cc2, bb3, hF, hM⟩ := hS
      refine sStore (i := 6) (off := 0) (cs' := #[.int .i64 xb, .int .i64 xq]) hF hM (by kernel_rfl) rfl rfl (by kernel_rfl) (by kernel_rfl) rfl (by kernel_rfl) fun w hM => ?_
      exact ⟨AA2, cc2, bb3, (hF.cast (by kernel_rfl)), ((hM.repl 5 (by kernel_rfl)).cast (by kernel_rfl))⟩
    · intro s0 s1 s2 s3 s4 s5 s6 hc hi hp a w hS
      obtain rfl : s6 = false := hi
      obtain rfl : s3 = true := hp 3 (by kernel_rfl)
      obtain ⟨AA2, cc2, bb3, hF, hM⟩ := hS
      refine eP 8 (v0 := .slice AA2 lk.length cc2) (v := .slice AA2 lk.length cc2) hF (by kernel_rfl) (fun _ => by kernel_rfl) rfl fun a hF => ?_
      exact ⟨AA2, cc2, bb3, ((hF.repl 5 (by kernel_rfl)).cast (by kernel_rfl)), (hM.cast (by kernel_rfl))⟩
  · intro a w hS
    obtain ⟨AA2, cc2, bb3, hF, hM⟩ := hS
    replace hF : Fr 117 [(1, some (.int .u32 bo)), (2, some (.slice Da dl.length cd)), (3, some (.pointer (some ⟨bb1, 0, none⟩))), (6, some (.bool false)), (7, some (.pointer (some ⟨bb3, 0, none⟩))), (8, some (.slice AA2 lk.length cc2)), (18, some (.agg #[.int .u32 bu, .int .u32 ra, .slice Ga gaps.length cg, .slice Sa sizes.length cs])), (19, some (.agg #[.int .i64 xb, .int .i64 xq])), (20, some (.agg #[.int .u32 bu, .int .u32 ra, .slice Ga gaps.length cg, .slice Sa sizes.length cs])), (21, some (.slice AA2 lk.length cc2))] a := hF.cast (by kernel_rfl)
    replace hM : Mem w0.heap.size w0 [(1, some (.ro Ga (gaps.map (Value.int .u16)))), (2, some (.ro Sa (sizes.map (Value.int .u16)))), (3, some (.ro Da (dl.map (Value.int .u32)))), (4, some (.row bb1 27 #[.int .u32 bu, .int .u32 ra, .slice Ga gaps.length cg, .slice Sa sizes.length cs])), (5, some (.own (.slice AA2 lk.length cc2) 31 2 lk.length (flat2 lk))), (6, some (.row bb3 23 #[.int .i64 xb, .int .i64 xq]))] w := hM.cast (by kernel_rfl)
    refine hK4 _ _ ?_
    refine wp_seq_k fun K5 hK5 => ?_
    refine wp_region_lit ?_
    refine sB 1 [(22, .int .u32 bo)] hF (by kernel_rfl) fun a hF => ?_
    refine wl (eM 23 (v := .int .u32 mo) hF hM (by kernel_rfl) (yld_rem bo 1073741824 hF rfl (by kernel_rfl) (by kernel_rfl) (by kernel_rfl) (by omega) ((Int.tmod_eq_emod_of_nonneg (by omega)).trans hmo)) fun a w hF hM => ?_)
    refine wl (eP 24 (v0 := .int .i64 (IntKind.i64.wrap mo)) (v := .int .i64 mo) hF (by kernel_rfl) (fun _ => by kernel_rfl) (vi (IntWalk.i64_in _ (by omega))) fun a hF => ?_)
    refine sB 1 [(9, .int .i64 mo)] hF (by kernel_rfl) fun a hF => ?_
    refine wpList_nil ?_
    refine hK5 _ _ ?_
    refine wp_seq_k fun K6 hK6 => ?_
    refine wp_region_lit ?_
    refine wl (eN 25 7 (t := 31) (fun b => .slice (some ⟨b, 0, none⟩) 0 0) #[] hF hM (by kernel_rfl) (fun _ => by kernel_rfl) fun bb4 a w hF hM => ?_)
    refine sB 1 [(26, .slice AA2 lk.length cc2)] hF (by kernel_rfl) fun a hF => ?_
    refine wl (sAppR0 27 7 (e := 31) (size := 2) (bytes := 16) (z := .agg #[.int .i64 0, .int .i64 0]) (m := lk.length) (c := cc2) (news := (flat2 lk)) (flat2 lk) hF hM (by kernel_rfl) rfl (by kernel_rfl) (by kernel_rfl) (by kernel_rfl) rfl rfl rfl (by first | exact flat2_length _ | (rw [flat2_length]; omega)) (roO 5 rfl) (flat2_one _) (by omega) (by decide) rfl (own_nil hM (k := 5) rfl) fun AA5 cc5 a w hF hM => ?_)
    refine sB 1 [(10, .slice AA5 lk.length cc5)] hF (by kernel_rfl) fun a hF => ?_
    refine wpList_nil ?_
    refine hK6 _ _ ?_
    refine wp_seq_k fun K7 hK7 => ?_
    refine wp_region_lit ?_
    refine sB 1 [(11, .int .i64 0)] hF (by kernel_rfl) fun a hF => ?_
    refine wpList_nil ?_
    refine hK7 _ _ ?_
    refine wp_seq_k fun K8 hK8 => ?_
    refine wp_seq_k fun K9 hK9 => ?_
    have hoz : oAt lk dl mo 0 = 0 := rfl
    refine wp_region_lit ?_
    refine sB 1 [(12, .int .i64 0)] hF (by kernel_rfl) fun a hF => ?_
    refine wpList_nil ?_
    refine hK9 _ _ ?_
    refine wp_block ?_
    refine wp_loop_k (G := Nat × List (Int × Int)) (fun gg a w => Fr 117 [(11, some (.int .i64 (oAt lk dl mo gg.1))), (12, some (.int .i64 (gg.1 : Int))), (2, some (.slice Da dl.length cd)), (6, some (.bool false)), (7, some (.pointer (some ⟨bb3, 0, none⟩))), (8, some (.slice AA2 lk.length cc2)), (9, some (.int .i64 mo)), (10, some (.slice AA5 lk.length cc5))] a ∧ Mem w0.heap.size w0 [(1, some (.ro Ga (gaps.map (Value.int .u16)))), (2, some (.ro Sa (sizes.map (Value.int .u16)))), (3, some (.ro Da (dl.map (Value.int .u32)))), (5, some (.own (.slice AA2 lk.length cc2) 31 2 lk.length (flat2 lk))), (6, some (.row bb3 23 #[.int .i64 xb, .int .i64 xq])), (7, some (.own (.slice AA5 lk.length cc5) 31 2 lk.length (flat2 gg.2)))] w ∧ ((gg.1 : Int) ≤ (lk.length : Int)) ∧ (gg.2 = oL lk dl mo gg.1) ∧ ((gg.2.length : Int) = (lk.length : Int))) (fun gg => lk.length - gg.1) (0, lk) ?_ ?_
    · refine ⟨(((((((((Fr.nil hF).c hF (i := 10) rfl rfl).c hF (i := 9) rfl rfl).c hF (i := 8) rfl rfl).c hF (i := 7) rfl rfl).c hF (i := 6) rfl rfl).c hF (i := 2) rfl rfl).c hF (i := 12) rfl (vi (show (0 : Int) = (0 : Int) from by omega))).c hF (i := 11) rfl (vi (show (0 : Int) = oAt lk dl mo 0 from by omega))), (hM.sub ((((((Sub.nil.c (k := 7) rfl rfl).c (k := 6) rfl rfl).c (k := 5) rfl rfl).c (k := 3) rfl rfl).c (k := 2) rfl rfl).c (k := 1) rfl rfl)), (show (0 : Int) ≤ (lk.length : Int) from by omega), (show lk = oL lk dl mo 0 from by rfl), (show (lk.length : Int) = (lk.length : Int) from by rfl)⟩
    · intro gg a w hI
      intro K10 hK10
      obtain ⟨k, mm⟩ := gg
      try dsimp only at hI hK10
      obtain ⟨hF, hM, hz1, hz2, hz3⟩ := hI
      have hmm : mm = oL lk dl mo k := by assumption
      refine wp_seq_k fun K11 hK11 => ?_
      refine wp_seq_k fun K12 hK12 => ?_
      refine wp_region_lit ?_
      refine sB 4 [(28, .int .i64 (k : Int)), (29, .slice AA2 lk.length cc2), (30, .int .i64 (lk.length : Int)), (31, .bool (decide ((k : Int) < (lk.length : Int))))] hF (by kernel_rfl) fun a hF => ?_
      refine wpList_nil ?_
      refine hK12 _ _ ?_
      by_cases hz4 : (k : Int) < (lk.length : Int)
      · skip
        replace hF := hF.c hF (i := 31) (v := .bool true) rfl (bT hz4)
        refine cT hF (by kernel_rfl) (by kernel_rfl) ?_
        refine wp_skip ?_
        refine hK11 _ _ ?_
        refine wp_seq_k fun K13 hK13 => ?_
        refine wp_block ?_
        refine wp_seq_k fun K14 hK14 => ?_
        refine wp_seq_k fun K15 hK15 => ?_
        have hpb := hpr k (by omega)
        have hpk : pr mm k = pr lk k := by rw [hmm, oL_pr (by omega) k (by omega), if_neg (by omega)]
        have hoc := oAt_cap (l := lk) (wt := dl) (D := mo) (M := 1966050) (C := 4294967295) (fun k hk => (hpr k hk).2.1) (by decide) (by decide) (by omega) hdl k (by omega)
        refine wp_region_lit ?_
        refine sB 4 [(34, .int .i64 (k : Int)), (35, .slice Da dl.length cd), (36, .int .i64 (dl.length : Int)), (37, .bool (decide ((k : Int) < (dl.length : Int))))] hF (by kernel_rfl) fun a hF => ?_
        refine wpList_nil ?_
        refine hK15 _ _ ?_
        by_cases hz5 : (k : Int) < (dl.length : Int)
        · skip
          replace hF := hF.c hF (i := 37) (v := .bool true) rfl (bT hz5)
          refine cT hF (by kernel_rfl) (by kernel_rfl) ?_
          refine rT 18 (by kernel_rfl) (by kernel_rfl) hM.drew ?_
          refine eQ 38 (v0 := .slice AA5 lk.length cc5) (v := .slice AA5 lk.length cc5) hF (by kernel_rfl) (fun _ => by kernel_rfl) rfl fun a hF => ?_
          refine eQ 39 (v0 := .int .i64 (k : Int)) (v := .int .i64 (k : Int)) hF (by kernel_rfl) (fun _ => by kernel_rfl) rfl fun a hF => ?_
          refine eQ 40 (v0 := .slice AA2 lk.length cc2) (v := .slice AA2 lk.length cc2) hF (by kernel_rfl) (fun _ => by kernel_rfl) rfl fun a hF => ?_
          refine eQ 41 (v0 := .int .i64 (k : Int)) (v := .int .i64 (k : Int)) hF (by kernel_rfl) (fun _ => by kernel_rfl) rfl fun a hF => ?_
          refine eQ2 42 (v := .pointer (some (ea AA2 (k * 2)))) hF (by kernel_rfl) (yld_ix (kd := .i64) (e := 31) (len := lk.length) (cap := cc2) (i := (k : Int)) (size := 2) (A := AA2) hF rfl (by kernel_rfl) (by kernel_rfl) (by kernel_rfl) (by kernel_rfl) (by kernel_rfl) (roO 5 rfl) (by omega) (by omega) (by rw [flat2_length]; omega)) fun a hF => ?_
          refine eQ 43 (v0 := .pointer (some (ea AA2 (k * 2)))) (v := .pointer (some (ea AA2 (k * 2)))) hF (by kernel_rfl) (fun _ => by kernel_rfl) rfl fun a hF => ?_
          refine eQ2 44 (v := .int .i64 (pr lk k).1) hF (by kernel_rfl) (yld_ro1 (A := AA2) (j := k * 2) hF rfl (by kernel_rfl) (by kernel_rfl) (roO 5 rfl) (by kernel_rfl) (pr_fst (k := k) (by omega) (by omega))) fun a hF => ?_
          refine eQ 45 (v0 := .slice Da dl.length cd) (v := .slice Da dl.length cd) hF (by kernel_rfl) (fun _ => by kernel_rfl) rfl fun a hF => ?_
          refine eQ 46 (v0 := .int .i64 (k : Int)) (v := .int .i64 (k : Int)) hF (by kernel_rfl) (fun _ => by kernel_rfl) rfl fun a hF => ?_
          refine eQ2 47 (v := .pointer (some (ea Da (k)))) hF (by kernel_rfl) (yld_ix (kd := .i64) (e := 24) (len := dl.length) (cap := cd) (i := (k : Int)) (size := 1) (A := Da) hF rfl (by kernel_rfl) (by kernel_rfl) (by kernel_rfl) (by kernel_rfl) (by kernel_rfl) (roK 3 rfl) (by omega) (by omega) (by rw [List.length_map]; omega)) fun a hF => ?_
          refine eQ2 48 (v := .int .u32 (nt dl k)) hF (by kernel_rfl) (yld_ro1 (A := Da) (j := k) hF rfl (by kernel_rfl) (by kernel_rfl) (roK 3 rfl) (by kernel_rfl) (nt_at (by omega))) fun a hF => ?_
          have := all32_nt34 hd32 k
          refine eQ 49 (v0 := .int .i64 (IntKind.i64.wrap (nt dl k))) (v := .int .i64 (nt dl k)) hF (by kernel_rfl) (fun _ => by kernel_rfl) (vi (IntWalk.i64_in _ (by omega))) fun a hF => ?_
          refine eQ 50 (v0 := .int .i64 mo) (v := .int .i64 mo) hF (by kernel_rfl) (fun _ => by kernel_rfl) rfl fun a hF => ?_
          refine eQ 51 (v0 := .int .i64 (IntKind.i64.wrap (mo + 1))) (v := .int .i64 (mo + 1)) hF (by kernel_rfl) (fun _ => by kernel_rfl) (wi (by omega)) fun a hF => ?_
          refine eQ2 52 (v := .int .i64 (nt dl k % (mo + 1))) hF (by kernel_rfl) (yld_rem (nt dl k) (mo + 1) hF rfl (by kernel_rfl) (by kernel_rfl) (by kernel_rfl) (by omega) (Int.tmod_eq_emod_of_nonneg (by omega))) fun a hF => ?_
          have := emod_bd (p := nt dl k) (q := mo + 1) (by omega) (by omega)
          refine eQ 53 (v0 := .int .i64 (IntKind.i64.wrap ((pr lk k).1 + nt dl k % (mo + 1)))) (v := .int .i64 ((pr lk k).1 + nt dl k % (mo + 1))) hF (by kernel_rfl) (fun _ => by kernel_rfl) (wi (by omega)) fun a hF => ?_
          refine eQ2 54 (v := .pointer (some (ea AA5 (k * 2)))) hF (by kernel_rfl) (yld_ix (kd := .i64) (e := 31) (len := lk.length) (cap := cc5) (i := (k : Int)) (size := 2) (A := AA5) hF rfl (by kernel_rfl) (by kernel_rfl) (by kernel_rfl) (by kernel_rfl) (by kernel_rfl) (roO 7 rfl) (by omega) (by omega) (by rw [flat2_length]; omega)) fun a hF => ?_
          refine eQ 55 (v0 := .pointer (some (ea AA5 (k * 2)))) (v := .pointer (some (ea AA5 (k * 2)))) hF (by kernel_rfl) (fun _ => by kernel_rfl) rfl fun a hF => ?_
          refine wpQuiet_nil ?_
          intro w hM
          refine wl (sStoreO 7 (j := k * 2) (A := AA5) (flat2 ((mm).set k ((pr lk k).1 + nt dl k % (mo + 1), (pr mm k).2))) hF hM (by kernel_rfl) rfl rfl (by kernel_rfl) (by kernel_rfl) rfl (by kernel_rfl) rfl rfl (by rw [flat2_length]; omega) (flat2_set1 (k := k) _ (by omega) (by omega)) fun w hM => ?_)
          refine wpList_nil ?_
          refine hK14 _ _ ?_
          refine wp_seq_k fun K16 hK16 => ?_
          obtain ⟨m1, hm1⟩ : ∃ z : List (Int × Int), (mm).set k ((pr lk k).1 + nt dl k % (mo + 1), (pr mm k).2) = z := ⟨_, rfl⟩
          rw [hm1] at hM
          have hm1l : m1.length = mm.length := by rw [← hm1, List.length_set]
          have hu : (pr m1 k).1 = (pr lk k).1 + nt dl k % (mo + 1) := by rw [← hm1, pr_set (by omega), if_pos rfl]
          refine wp_region_lit ?_
          refine sB 4 [(56, .slice AA5 lk.length cc5), (57, .int .i64 (k : Int)), (58, .slice AA5 lk.length cc5), (59, .int .i64 (k : Int))] hF (by kernel_rfl) fun a hF => ?_
          refine wl (eM 60 (v := .pointer (some (ea AA5 (k * 2)))) hF hM (by kernel_rfl) (yld_ix (kd := .i64) (e := 31) (len := lk.length) (cap := cc5) (i := (k : Int)) (size := 2) (A := AA5) hF rfl (by kernel_rfl) (by kernel_rfl) (by kernel_rfl) (by kernel_rfl) (by kernel_rfl) (roO 7 rfl) (by omega) (by omega) (by rw [flat2_length]; omega)) fun a w hF hM => ?_)
          refine sB 1 [(61, .pointer (some (ea AA5 (k * 2))))] hF (by kernel_rfl) fun a hF => ?_
          refine wl (eM 62 (v := .int .i64 (pr m1 k).1) hF hM (by kernel_rfl) (yld_ro1 (A := AA5) (j := k * 2) hF rfl (by kernel_rfl) (by kernel_rfl) (roO 7 rfl) (by kernel_rfl) (pr_fst (k := k) (by omega) (by omega))) fun a w hF hM => ?_)
          refine sB 1 [(63, .int .i64 (oAt lk dl mo k))] hF (by kernel_rfl) fun a hF => ?_
          refine wl (eP 64 (v0 := .int .i64 (if oAt lk dl mo k > (pr m1 k).1 then oAt lk dl mo k else (pr m1 k).1)) (v := .int .i64 (max (pr m1 k).1 (oAt lk dl mo k))) hF (by kernel_rfl) (fun _ => by kernel_rfl) (vi (max_if _ _)) fun a hF => ?_)
          refine wl (eM 65 (v := .pointer (some (ea AA5 (k * 2)))) hF hM (by kernel_rfl) (yld_ix (kd := .i64) (e := 31) (len := lk.length) (cap := cc5) (i := (k : Int)) (size := 2) (A := AA5) hF rfl (by kernel_rfl) (by kernel_rfl) (by kernel_rfl) (by kernel_rfl) (by kernel_rfl) (roO 7 rfl) (by omega) (by omega) (by rw [flat2_length]; omega)) fun a w hF hM => ?_)
          refine sB 1 [(66, .pointer (some (ea AA5 (k * 2))))] hF (by kernel_rfl) fun a hF => ?_
          refine wl (sStoreO 7 (j := k * 2) (A := AA5) (flat2 ((m1).set k (max (pr m1 k).1 (oAt lk dl mo k), (pr m1 k).2))) hF hM (by kernel_rfl) rfl rfl (by kernel_rfl) (by kernel_rfl) rfl (by kernel_rfl) rfl rfl (by rw [flat2_length]; omega) (flat2_set1 (k := k) _ (by omega) (by omega)) fun w hM => ?_)
          refine wpList_nil ?_
          refine hK16 _ _ ?_
          obtain ⟨m2, hm2⟩ : ∃ z : List (Int × Int), (m1).set k (max (pr m1 k).1 (oAt lk dl mo k), (pr m1 k).2) = z := ⟨_, rfl⟩
          rw [hm2] at hM
          have hm2o : m2 = oL lk dl mo (k + 1) := by
            rw [← hm2, ← hm1]
            exact late_set2 hmm (by omega) (by rw [hm1, hu, if_pos (by omega)])
          have hq2 : (pr m2 k).1 = oAt lk dl mo (k + 1) := by rw [hm2o, oL_pr (by omega) k (by omega), if_pos (by omega)]
          have hm2l : m2.length = mm.length := by rw [hm2o, hmm, oL_len, oL_len]
          refine wp_region_lit ?_
          refine sB 2 [(67, .slice AA5 lk.length cc5), (68, .int .i64 (k : Int))] hF (by kernel_rfl) fun a hF => ?_
          refine wl (eM 69 (v := .pointer (some (ea AA5 (k * 2)))) hF hM (by kernel_rfl) (yld_ix (kd := .i64) (e := 31) (len := lk.length) (cap := cc5) (i := (k : Int)) (size := 2) (A := AA5) hF rfl (by kernel_rfl) (by kernel_rfl) (by kernel_rfl) (by kernel_rfl) (by kernel_rfl) (roO 7 rfl) (by omega) (by omega) (by rw [flat2_length]; omega)) fun a w hF hM => ?_)
          refine sB 1 [(70, .pointer (some (ea AA5 (k * 2))))] hF (by kernel_rfl) fun a hF => ?_
          refine wl (eM 71 (v := .int .i64 (pr m2 k).1) hF hM (by kernel_rfl) (yld_ro1 (A := AA5) (j := k * 2) hF rfl (by kernel_rfl) (by kernel_rfl) (roO 7 rfl) (by kernel_rfl) (pr_fst (k := k) (by omega) (by omega))) fun a w hF hM => ?_)
          refine sB 1 [(11, .int .i64 (pr m2 k).1)] hF (by kernel_rfl) fun a hF => ?_
          refine wpList_nil ?_
          refine hK13 _ _ ?_
          refine wp_region_lit ?_
          refine sB 1 [(32, .int .i64 (k : Int))] hF (by kernel_rfl) fun a hF => ?_
          refine wl (eP 33 (v0 := .int .i64 (IntKind.i64.wrap ((k : Int) + 1))) (v := .int .i64 ((k : Int) + 1)) hF (by kernel_rfl) (fun _ => by kernel_rfl) (wi (by omega)) fun a hF => ?_)
          refine sB 1 [(12, .int .i64 ((k : Int) + 1))] hF (by kernel_rfl) fun a hF => ?_
          refine wpList_nil ?_
          refine hK10 _ _ ⟨(k + 1, m2), ⟨(((((((((Fr.nil hF).c hF (i := 10) rfl rfl).c hF (i := 9) rfl rfl).c hF (i := 8) rfl rfl).c hF (i := 7) rfl rfl).c hF (i := 6) rfl rfl).c hF (i := 2) rfl rfl).c hF (i := 12) rfl (vi (show ((k : Int) + 1 : Int) = ((k + 1) : Int) from by omega))).c hF (i := 11) rfl (vi (show ((pr m2 k).1 : Int) = oAt lk dl mo (k + 1) from by omega))), (hM.sub ((((((Sub.nil.c (k := 7) rfl rfl).c (k := 6) rfl rfl).c (k := 5) rfl rfl).c (k := 3) rfl rfl).c (k := 2) rfl rfl).c (k := 1) rfl rfl)), (show ((k + 1) : Int) ≤ (lk.length : Int) from by omega), (show m2 = oL lk dl mo (k + 1) from by exact hm2o), (show (m2.length : Int) = (lk.length : Int) from by omega)⟩, (show lk.length - (k + 1) < lk.length - k from by omega)⟩
        · skip
          replace hF := hF.c hF (i := 37) (v := .bool false) rfl (bF hz5)
          refine cF hF (by kernel_rfl) (by kernel_rfl) ?_
          refine wp_skip ?_
          refine hK14 _ _ ?_
          refine wp_seq_k fun K17 hK17 => ?_
          have hu : (pr mm k).1 = (pr lk k).1 := by rw [hpk]
          refine wp_region_lit ?_
          refine sB 4 [(56, .slice AA5 lk.length cc5), (57, .int .i64 (k : Int)), (58, .slice AA5 lk.length cc5), (59, .int .i64 (k : Int))] hF (by kernel_rfl) fun a hF => ?_
          refine wl (eM 60 (v := .pointer (some (ea AA5 (k * 2)))) hF hM (by kernel_rfl) (yld_ix (kd := .i64) (e := 31) (len := lk.length) (cap := cc5) (i := (k : Int)) (size := 2) (A := AA5) hF rfl (by kernel_rfl) (by kernel_rfl) (by kernel_rfl) (by kernel_rfl) (by kernel_rfl) (roO 7 rfl) (by omega) (by omega) (by rw [flat2_length]; omega)) fun a w hF hM => ?_)
          refine sB 1 [(61, .pointer (some (ea AA5 (k * 2))))] hF (by kernel_rfl) fun a hF => ?_
          refine wl (eM 62 (v := .int .i64 (pr mm k).1) hF hM (by kernel_rfl) (yld_ro1 (A := AA5) (j := k * 2) hF rfl (by kernel_rfl) (by kernel_rfl) (roO 7 rfl) (by kernel_rfl) (pr_fst (k := k) (by omega) (by omega))) fun a w hF hM => ?_)
          refine sB 1 [(63, .int .i64 (oAt lk dl mo k))] hF (by kernel_rfl) fun a hF => ?_
          refine wl (eP 64 (v0 := .int .i64 (if oAt lk dl mo k > (pr mm k).1 then oAt lk dl mo k else (pr mm k).1)) (v := .int .i64 (max (pr mm k).1 (oAt lk dl mo k))) hF (by kernel_rfl) (fun _ => by kernel_rfl) (vi (max_if _ _)) fun a hF => ?_)
          refine wl (eM 65 (v := .pointer (some (ea AA5 (k * 2)))) hF hM (by kernel_rfl) (yld_ix (kd := .i64) (e := 31) (len := lk.length) (cap := cc5) (i := (k : Int)) (size := 2) (A := AA5) hF rfl (by kernel_rfl) (by kernel_rfl) (by kernel_rfl) (by kernel_rfl) (by kernel_rfl) (roO 7 rfl) (by omega) (by omega) (by rw [flat2_length]; omega)) fun a w hF hM => ?_)
          refine sB 1 [(66, .pointer (some (ea AA5 (k * 2))))] hF (by kernel_rfl) fun a hF => ?_
          refine wl (sStoreO 7 (j := k * 2) (A := AA5) (flat2 ((mm).set k (max (pr mm k).1 (oAt lk dl mo k), (pr mm k).2))) hF hM (by kernel_rfl) rfl rfl (by kernel_rfl) (by kernel_rfl) rfl (by kernel_rfl) rfl rfl (by rw [flat2_length]; omega) (flat2_set1 (k := k) _ (by omega) (by omega)) fun w hM => ?_)
          refine wpList_nil ?_
          refine hK17 _ _ ?_
          obtain ⟨m2, hm2⟩ : ∃ z : List (Int × Int), (mm).set k (max (pr mm k).1 (oAt lk dl mo k), (pr mm k).2) = z := ⟨_, rfl⟩
          rw [hm2] at hM
          have hm2o : m2 = oL lk dl mo (k + 1) := by
            rw [← hm2]
            exact late_set hmm (by rw [hu, if_neg (by omega), Int.add_zero])
          have hq2 : (pr m2 k).1 = oAt lk dl mo (k + 1) := by rw [hm2o, oL_pr (by omega) k (by omega), if_pos (by omega)]
          have hm2l : m2.length = mm.length := by rw [hm2o, hmm, oL_len, oL_len]
          refine wp_region_lit ?_
          refine sB 2 [(67, .slice AA5 lk.length cc5), (68, .int .i64 (k : Int))] hF (by kernel_rfl) fun a hF => ?_
          refine wl (eM 69 (v := .pointer (some (ea AA5 (k * 2)))) hF hM (by kernel_rfl) (yld_ix (kd := .i64) (e := 31) (len := lk.length) (cap := cc5) (i := (k : Int)) (size := 2) (A := AA5) hF rfl (by kernel_rfl) (by kernel_rfl) (by kernel_rfl) (by kernel_rfl) (by kernel_rfl) (roO 7 rfl) (by omega) (by omega) (by rw [flat2_length]; omega)) fun a w hF hM => ?_)
          refine sB 1 [(70, .pointer (some (ea AA5 (k * 2))))] hF (by kernel_rfl) fun a hF => ?_
          refine wl (eM 71 (v := .int .i64 (pr m2 k).1) hF hM (by kernel_rfl) (yld_ro1 (A := AA5) (j := k * 2) hF rfl (by kernel_rfl) (by kernel_rfl) (roO 7 rfl) (by kernel_rfl) (pr_fst (k := k) (by omega) (by omega))) fun a w hF hM => ?_)
          refine sB 1 [(11, .int .i64 (pr m2 k).1)] hF (by kernel_rfl) fun a hF => ?_
          refine wpList_nil ?_
          refine hK13 _ _ ?_
          refine wp_region_lit ?_
          refine sB 1 [(32, .int .i64 (k : Int))] hF (by kernel_rfl) fun a hF => ?_
          refine wl (eP 33 (v0 := .int .i64 (IntKind.i64.wrap ((k : Int) + 1))) (v := .int .i64 ((k : Int) + 1)) hF (by kernel_rfl) (fun _ => by kernel_rfl) (wi (by omega)) fun a hF => ?_)
          refine sB 1 [(12, .int .i64 ((k : Int) + 1))] hF (by kernel_rfl) fun a hF => ?_
          refine wpList_nil ?_
          refine hK10 _ _ ⟨(k + 1, m2), ⟨(((((((((Fr.nil hF).c hF (i := 10) rfl rfl).c hF (i := 9) rfl rfl).c hF (i := 8) rfl rfl).c hF (i := 7) rfl rfl).c hF (i := 6) rfl rfl).c hF (i := 2) rfl rfl).c hF (i := 12) rfl (vi (show ((k : Int) + 1 : Int) = ((k + 1) : Int) from by omega))).c hF (i := 11) rfl (vi (show ((pr m2 k).1 : Int) = oAt lk dl mo (k + 1) from by omega))), (hM.sub ((((((Sub.nil.c (k := 7) rfl rfl).c (k := 6) rfl rfl).c (k := 5) rfl rfl).c (k := 3) rfl rfl).c (k := 2) rfl rfl).c (k := 1) rfl rfl)), (show ((k + 1) : Int) ≤ (lk.length : Int) from by omega), (show m2 = oL lk dl mo (k + 1) from by exact hm2o), (show (m2.length : Int) = (lk.length : Int) from by omega)⟩, (show lk.length - (k + 1) < lk.length - k from by omega)⟩
      · skip
        replace hF := hF.c hF (i := 31) (v := .bool false) rfl (bF hz4)
        refine cF hF (by kernel_rfl) (by kernel_rfl) ?_
        refine wp_exit ?_
        refine hK8 _ _ ?_
        refine wp_seq_k fun K18 hK18 => ?_
        have hk : k = lk.length := by omega
        have hmL : mm = oL lk dl mo lk.length := by rw [hmm, hk]
        have hlo := late_ok (l := lk) (wt := dl) (D := mo) (C := 4294967295) (M := 1966050) htr (fun k hk => (hpr k hk).2.1) (by decide) (by omega) (by decide) hdl (by decide)
        rw [← hmL] at hlo
        have hfr := shT_free (D := mo) hcf hlo.1 (by omega) (fun k hk => hlo.2.1 k hk) (by omega) (fun k hk => (hlo.2.2 k hk).2.1) (fun k hk => by have := hpr k hk; omega)
        have hmT : ∀ j, j < mm.length → shT xb xq mm j ≤ 1099511627776 := fun j hj => by have := hfr.2 j (by omega); have := hpr j (by omega); omega
        have hmok : ShOk xb xq mm := ⟨hbk, hlo.1, hfr.1, hmT⟩
        have hme := hmok.e
        obtain ⟨ol, hol2⟩ : ∃ z : List Int, shUp xb xq mm mm.length = z := ⟨_, rfl⟩
        have holl : ol.length = lk.length := by rw [← hol2, shUp_length]; omega
        have hfin : ∀ j, j < lk.length → (pr mm j).1 ≤ nt ol j ∧ nt ol j ≤ (pr lk j).1 + mo := fun j hj => by rw [← hol2, shUp_at (show j < mm.length by omega)]; exact ⟨(hmok.step (k := j) (by omega)).2.2.2, hfr.2 j hj⟩
        refine wp_region_lit ?_
        refine wl (eL 73 6 0 (v := .agg #[.int .i64 xb, .int .i64 xq]) hF hM (by kernel_rfl) rfl rfl (by kernel_rfl) (by kernel_rfl) fun a w hF hM => ?_)
        refine sB 1 [(74, .slice AA5 lk.length cc5)] hF (by kernel_rfl) fun a hF => ?_
        refine wl (sOwn 8 (f := 19) (args := #[.agg #[.int .i64 xb, .int .i64 xq], .slice AA5 lk.length cc5]) (mk := fun v => .tuple #[v, .int .i64 0]) (e := 3) (size := 1) (m := lk.length) (xs := (ol.map (Value.int .i64))) hF hM (by kernel_rfl) rfl (by decide) (by kernel_rfl) (fun _ => by kernel_rfl) (by rw [show lk.length = mm.length from by omega]; exact shRun_lit hol2 (shRun_ok xb xq AA5 mm _ w (ro_of_own (hM.ok 7 _ rfl)) hme)) fun AA6 cc6 a w hF hM => ?_)
        refine sB 5 [(72, .tuple #[.slice AA6 lk.length cc6, .int .i64 0]), (76, .slice AA6 lk.length cc6), (77, .int .i64 0), (13, .slice AA6 lk.length cc6), (14, .int .i64 0)] hF (by kernel_rfl) fun a hF => ?_
        refine wpList_nil ?_
        refine hK18 _ _ ?_
        refine wp_seq_k fun K19 hK19 => ?_
        refine wp_seq_k fun K20 hK20 => ?_
        refine wp_region_lit ?_
        refine sB 1 [(78, .int .i64 0)] hF (by kernel_rfl) fun a hF => ?_
        refine wl (eP 79 (v0 := .bool (!decide (0 = 0))) (v := .bool false) hF (by kernel_rfl) (fun _ => by kernel_rfl) (nT (by omega)) fun a hF => ?_)
        refine sB 5 [(80, .bool false), (81, .slice AA6 lk.length cc6), (82, .int .i64 (lk.length : Int)), (83, .slice AA2 lk.length cc2), (84, .int .i64 (lk.length : Int))] hF (by kernel_rfl) fun a hF => ?_
        refine wl (eP 85 (v0 := .bool (!decide ((lk.length : Int) = (lk.length : Int)))) (v := .bool false) hF (by kernel_rfl) (fun _ => by kernel_rfl) (nT (by omega)) fun a hF => ?_)
        refine sB 1 [(86, .bool false)] hF (by kernel_rfl) fun a hF => ?_
        refine wpList_nil ?_
        refine hK20 _ _ ?_
        refine cF hF (by kernel_rfl) (by kernel_rfl) ?_
        refine wp_skip ?_
        refine hK19 _ _ ?_
        refine wp_seq_k fun K21 hK21 => ?_
        refine wp_seq_k fun K22 hK22 => ?_
        refine wp_region_lit ?_
        refine sB 1 [(15, .int .i64 0)] hF (by kernel_rfl) fun a hF => ?_
        refine wpList_nil ?_
        refine hK22 _ _ ?_
        refine wp_block ?_
        refine wp_loop_k (G := Nat) (fun gg a w => Fr 117 [(15, some (.int .i64 (gg : Int))), (8, some (.slice AA2 lk.length cc2)), (9, some (.int .i64 mo)), (10, some (.slice AA5 lk.length cc5)), (13, some (.slice AA6 lk.length cc6))] a ∧ Mem w0.heap.size w0 [(1, some (.ro Ga (gaps.map (Value.int .u16)))), (2, some (.ro Sa (sizes.map (Value.int .u16)))), (3, some (.ro Da (dl.map (Value.int .u32)))), (5, some (.own (.slice AA2 lk.length cc2) 31 2 lk.length (flat2 lk))), (7, some (.own (.slice AA5 lk.length cc5) 31 2 lk.length (flat2 mm))), (8, some (.own (.slice AA6 lk.length cc6) 3 1 lk.length (ol.map (Value.int .i64))))] w ∧ ((gg : Int) ≤ (lk.length : Int))) (fun gg => lk.length - gg) (0) ?_ ?_
        · refine ⟨((((((Fr.nil hF).c hF (i := 13) rfl rfl).c hF (i := 10) rfl rfl).c hF (i := 9) rfl rfl).c hF (i := 8) rfl rfl).c hF (i := 15) rfl (vi (show (0 : Int) = (0 : Int) from by omega))), (hM.sub ((((((Sub.nil.c (k := 8) rfl rfl).c (k := 7) rfl rfl).c (k := 5) rfl rfl).c (k := 3) rfl rfl).c (k := 2) rfl rfl).c (k := 1) rfl rfl)), (show (0 : Int) ≤ (lk.length : Int) from by omega)⟩
        · intro gg a w hI
          intro K23 hK23
          obtain ⟨q, rfl⟩ : ∃ x, x = gg := ⟨_, rfl⟩
          try dsimp only at hI hK23
          obtain ⟨hF, hM, hz6⟩ := hI
          refine wp_seq_k fun K24 hK24 => ?_
          refine wp_seq_k fun K25 hK25 => ?_
          refine wp_region_lit ?_
          refine sB 4 [(87, .int .i64 (q : Int)), (88, .slice AA2 lk.length cc2), (89, .int .i64 (lk.length : Int)), (90, .bool (decide ((q : Int) < (lk.length : Int))))] hF (by kernel_rfl) fun a hF => ?_
          refine wpList_nil ?_
          refine hK25 _ _ ?_
          by_cases hz7 : (q : Int) < (lk.length : Int)
          · skip
            replace hF := hF.c hF (i := 90) (v := .bool true) rfl (bT hz7)
            refine cT hF (by kernel_rfl) (by kernel_rfl) ?_
            refine wp_skip ?_
            refine hK24 _ _ ?_
            refine wp_seq_k fun K26 hK26 => ?_
            refine wp_block ?_
            refine wp_seq_k fun K27 hK27 => ?_
            have hfq := hfin q (by omega)
            have hpq := hpr q (by omega)
            refine rQ hM (by kernel_rfl) (by kernel_rfl) ?_
            refine eQ 93 (v0 := .slice AA6 lk.length cc6) (v := .slice AA6 lk.length cc6) hF (by kernel_rfl) (fun _ => by kernel_rfl) rfl fun a hF => ?_
            refine eQ 94 (v0 := .int .i64 (q : Int)) (v := .int .i64 (q : Int)) hF (by kernel_rfl) (fun _ => by kernel_rfl) rfl fun a hF => ?_
            refine eQ2 95 (v := .pointer (some (ea AA6 (q)))) hF (by kernel_rfl) (yld_ix (kd := .i64) (e := 3) (len := lk.length) (cap := cc6) (i := (q : Int)) (size := 1) (A := AA6) hF rfl (by kernel_rfl) (by kernel_rfl) (by kernel_rfl) (by kernel_rfl) (by kernel_rfl) (roO 8 rfl) (by omega) (by omega) (by rw [List.length_map]; omega)) fun a hF => ?_
            refine eQ2 96 (v := .int .i64 (nt ol q)) hF (by kernel_rfl) (yld_ro1 (A := AA6) (j := q) hF rfl (by kernel_rfl) (by kernel_rfl) (roO 8 rfl) (by kernel_rfl) (nt_at (by omega))) fun a hF => ?_
            refine eQ 97 (v0 := .slice AA5 lk.length cc5) (v := .slice AA5 lk.length cc5) hF (by kernel_rfl) (fun _ => by kernel_rfl) rfl fun a hF => ?_
            refine eQ 98 (v0 := .int .i64 (q : Int)) (v := .int .i64 (q : Int)) hF (by kernel_rfl) (fun _ => by kernel_rfl) rfl fun a hF => ?_
            refine eQ2 99 (v := .pointer (some (ea AA5 (q * 2)))) hF (by kernel_rfl) (yld_ix (kd := .i64) (e := 31) (len := lk.length) (cap := cc5) (i := (q : Int)) (size := 2) (A := AA5) hF rfl (by kernel_rfl) (by kernel_rfl) (by kernel_rfl) (by kernel_rfl) (by kernel_rfl) (roO 7 rfl) (by omega) (by omega) (by rw [flat2_length]; omega)) fun a hF => ?_
            refine eQ 100 (v0 := .pointer (some (ea AA5 (q * 2)))) (v := .pointer (some (ea AA5 (q * 2)))) hF (by kernel_rfl) (fun _ => by kernel_rfl) rfl fun a hF => ?_
            refine eQ2 101 (v := .int .i64 (pr mm q).1) hF (by kernel_rfl) (yld_ro1 (A := AA5) (j := q * 2) hF rfl (by kernel_rfl) (by kernel_rfl) (roO 7 rfl) (by kernel_rfl) (pr_fst (k := q) (by omega) (by omega))) fun a hF => ?_
            refine eQ 102 (v0 := .bool (decide (nt ol q < (pr mm q).1))) (v := .bool false) hF (by kernel_rfl) (fun _ => by kernel_rfl) (bF (by omega)) fun a hF => ?_
            refine eQ 103 (v0 := .bool false) (v := .bool false) hF (by kernel_rfl) (fun _ => by kernel_rfl) rfl fun a hF => ?_
            refine eQ 104 (v0 := .slice AA6 lk.length cc6) (v := .slice AA6 lk.length cc6) hF (by kernel_rfl) (fun _ => by kernel_rfl) rfl fun a hF => ?_
            refine eQ 105 (v0 := .int .i64 (q : Int)) (v := .int .i64 (q : Int)) hF (by kernel_rfl) (fun _ => by kernel_rfl) rfl fun a hF => ?_
            refine eQ2 106 (v := .pointer (some (ea AA6 (q)))) hF (by kernel_rfl) (yld_ix (kd := .i64) (e := 3) (len := lk.length) (cap := cc6) (i := (q : Int)) (size := 1) (A := AA6) hF rfl (by kernel_rfl) (by kernel_rfl) (by kernel_rfl) (by kernel_rfl) (by kernel_rfl) (roO 8 rfl) (by omega) (by omega) (by rw [List.length_map]; omega)) fun a hF => ?_
            refine eQ2 107 (v := .int .i64 (nt ol q)) hF (by kernel_rfl) (yld_ro1 (A := AA6) (j := q) hF rfl (by kernel_rfl) (by kernel_rfl) (roO 8 rfl) (by kernel_rfl) (nt_at (by omega))) fun a hF => ?_
            refine eQ 108 (v0 := .slice AA2 lk.length cc2) (v := .slice AA2 lk.length cc2) hF (by kernel_rfl) (fun _ => by kernel_rfl) rfl fun a hF => ?_
            refine eQ 109 (v0 := .int .i64 (q : Int)) (v := .int .i64 (q : Int)) hF (by kernel_rfl) (fun _ => by kernel_rfl) rfl fun a hF => ?_
            refine eQ2 110 (v := .pointer (some (ea AA2 (q * 2)))) hF (by kernel_rfl) (yld_ix (kd := .i64) (e := 31) (len := lk.length) (cap := cc2) (i := (q : Int)) (size := 2) (A := AA2) hF rfl (by kernel_rfl) (by kernel_rfl) (by kernel_rfl) (by kernel_rfl) (by kernel_rfl) (roO 5 rfl) (by omega) (by omega) (by rw [flat2_length]; omega)) fun a hF => ?_
            refine eQ 111 (v0 := .pointer (some (ea AA2 (q * 2)))) (v := .pointer (some (ea AA2 (q * 2)))) hF (by kernel_rfl) (fun _ => by kernel_rfl) rfl fun a hF => ?_
            refine eQ2 112 (v := .int .i64 (pr lk q).1) hF (by kernel_rfl) (yld_ro1 (A := AA2) (j := q * 2) hF rfl (by kernel_rfl) (by kernel_rfl) (roO 5 rfl) (by kernel_rfl) (pr_fst (k := q) (by omega) (by omega))) fun a hF => ?_
            refine eQ 113 (v0 := .int .i64 mo) (v := .int .i64 mo) hF (by kernel_rfl) (fun _ => by kernel_rfl) rfl fun a hF => ?_
            refine eQ 114 (v0 := .int .i64 (IntKind.i64.wrap ((pr lk q).1 + mo))) (v := .int .i64 ((pr lk q).1 + mo)) hF (by kernel_rfl) (fun _ => by kernel_rfl) (wi (by omega)) fun a hF => ?_
            refine eQ 115 (v0 := .bool (decide ((pr lk q).1 + mo < nt ol q))) (v := .bool false) hF (by kernel_rfl) (fun _ => by kernel_rfl) (bF (by omega)) fun a hF => ?_
            refine eQ 116 (v0 := .bool false) (v := .bool false) hF (by kernel_rfl) (fun _ => by kernel_rfl) rfl fun a hF => ?_
            refine wpQuiet_nil ?_
            intro w hM
            refine hK27 _ _ ?_
            refine cF hF (by kernel_rfl) (by kernel_rfl) ?_
            refine wp_skip ?_
            refine hK26 _ _ ?_
            refine wp_region_lit ?_
            refine sB 1 [(91, .int .i64 (q : Int))] hF (by kernel_rfl) fun a hF => ?_
            refine wl (eP 92 (v0 := .int .i64 (IntKind.i64.wrap ((q : Int) + 1))) (v := .int .i64 ((q : Int) + 1)) hF (by kernel_rfl) (fun _ => by kernel_rfl) (wi (by omega)) fun a hF => ?_)
            refine sB 1 [(15, .int .i64 ((q : Int) + 1))] hF (by kernel_rfl) fun a hF => ?_
            refine wpList_nil ?_
            refine hK23 _ _ ⟨(q + 1), ⟨((((((Fr.nil hF).c hF (i := 13) rfl rfl).c hF (i := 10) rfl rfl).c hF (i := 9) rfl rfl).c hF (i := 8) rfl rfl).c hF (i := 15) rfl (vi (show ((q : Int) + 1 : Int) = ((q + 1) : Int) from by omega))), (hM.sub ((((((Sub.nil.c (k := 8) rfl rfl).c (k := 7) rfl rfl).c (k := 5) rfl rfl).c (k := 3) rfl rfl).c (k := 2) rfl rfl).c (k := 1) rfl rfl)), (show ((q + 1) : Int) ≤ (lk.length : Int) from by omega)⟩, (show lk.length - (q + 1) < lk.length - q from by omega)⟩
          · skip
            replace hF := hF.c hF (i := 90) (v := .bool false) rfl (bF hz7)
            refine cF hF (by kernel_rfl) (by kernel_rfl) ?_
            refine wp_exit ?_
            refine hK21 _ _ ?_
            refine wp_seq_k fun K28 hK28 => ?_
            refine wp_region_lit ?_
            refine sB 1 [(6, .bool true)] hF (by kernel_rfl) fun a hF => ?_
            refine wpList_nil ?_
            refine hK28 _ _ ?_
            refine wp_ret ?_
            refine hR0 _ _ ?_
            refine ret_of hF hM (.tmp rfl (.nil)) ?_
            exact ⟨rfl, hM.bel⟩

end Go.Proofs.Ytaekcgapbkmepaa
