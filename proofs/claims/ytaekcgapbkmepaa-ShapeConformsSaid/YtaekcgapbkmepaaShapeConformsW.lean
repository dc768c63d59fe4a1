/-
  The walk of ShapeConforms.
-/
import Derived.Test.YtaekcgapbkmepaaShapeF
namespace Go.Proofs.Ytaekcgapbkmepaa
open Go.RowKit
set_option linter.unusedVariables false
set_option linter.unusedSimpArgs false

set_option maxRecDepth 100000 in
set_option maxHeartbeats 8000000 in
theorem shapeConforms_walk (bu ra : Int) (Ga : Option Addr) (gaps : List Int) (cg : Nat) (Sa : Option Addr) (sizes : List Int) (cs : Nat) (w0 : World) (hGa : Ro w0 Ga (gaps.map (Value.int .u16))) (hSa : Ro w0 Sa (sizes.map (Value.int .u16))) (hg : All16 gaps) (hs : All16 sizes) (hmg : gaps.length ≤ 9223372036854775807) (hms : sizes.length ≤ 9223372036854775807) (h : 0 ≤ bu ∧ bu < 4294967296 ∧ 0 ≤ ra ∧ ra < 4294967296) :
    Calls Try.prog 8 #[.agg #[.int .u32 bu, .int .u32 ra, .slice Ga gaps.length cg, .slice Sa sizes.length cs]] w0 (Ret w0 (.bool true)) := by
  obtain ⟨xb, hxb⟩ : ∃ z : Int, 1 + bu % 1048576 = z := ⟨_, rfl⟩
  obtain ⟨xq, hxq⟩ : ∃ z : Int, 1 + ra % 2097152 = z := ⟨_, rfl⟩
  have hbk : bkE xb xq = 0 := by unfold bkE; rw [if_pos]; omega
  obtain ⟨lt, hlt⟩ : ∃ z : List (Int × Int), drTrace gaps sizes = z := ⟨_, rfl⟩
  have htr : trE lt = 0 := by rw [← hlt]; exact dr_trE hg hs
  have hle : lt.length ≤ 30 := by rw [← hlt]; exact dr_le _ _
  have hpr : ∀ k, k < lt.length → 0 ≤ (pr lt k).1 ∧ (pr lt k).1 ≤ 1966050 ∧ 1 ≤ (pr lt k).2 ∧ (pr lt k).2 ≤ 65536 := by rw [← hlt]; exact fun k hk => dr_pr hg hs hk
  obtain ⟨fb, hfb⟩ : ∃ z : Int, fbN (1 + bu % 1048576) (drTrace gaps sizes) (drTrace gaps sizes).length = z := ⟨_, rfl⟩
  obtain ⟨fr, hfr⟩ : ∃ z : Int, max (1 + ra % 2097152) 1024 = z := ⟨_, rfl⟩
  have hfb2 : 1 ≤ fb ∧ fb ≤ 1048576 := by rw [← hfb, hlt]; exact fbN_bd (by omega) (fun k hk => by have := hpr k hk; omega) lt.length (Nat.le_refl _)
  have hfk : bkE fb fr = 0 := by unfold bkE; rw [if_pos]; omega
  have hft : fitB fb lt = true := fitB_yes fun j hj => by rw [← hfb, hlt]; exact fbN_le lt.length j hj
  have hsl := sum_le (l := lt) (M := 65536) (fun k hk => (hpr k hk).2.2.2) lt.length (Nat.le_refl _)
  have hT : ∀ j, j < lt.length → shT fb fr lt j ≤ 1099511627776 := fun j hj => by
    have c1 := shT_cap (M := 1966050) hfk htr hft (by omega) (by decide) (fun k hk => (hpr k hk).2.1) (by omega) j hj
    have c2 := sumN_mono htr (i := j + 1) (k := lt.length) (by omega) (by omega)
    omega
  have hok : ShOk fb fr lt := ⟨hfk, htr, hft, hT⟩
  have hse := hok.e
  obtain ⟨og, hog⟩ : ∃ z : List Int, shUp fb fr lt lt.length = z := ⟨_, rfl⟩
  have hol : og.length = lt.length := by rw [← hog]; exact shUp_length _ _ _ _
  have hoa : ∀ j, j < lt.length → nt og j = shT fb fr lt j := fun j hj => by rw [← hog]; exact shUp_at hj
  refine enterK 142 Try.func8 rfl rfl rfl ?_
  intro a hF Q0 hR0 hN0
  have hM := Mem.start w0
  replace hM := hM.addOld 1 hGa (Nat.le_refl _)
  replace hM := hM.addOld 2 hSa (Nat.le_refl _)
  refine wp_seq_k fun K1 hK1 => ?_
  refine wp_region_lit ?_
  refine wl (eN 1 3 (t := 27) (fun b => .pointer (some ⟨b, 0, none⟩)) #[.int .u32 bu, .int .u32 ra, .slice Ga gaps.length cg, .slice Sa sizes.length cs] hF hM (by kernel_rfl) (fun _ => by kernel_rfl) fun bb1 a w hF hM => ?_)
  refine sB 1 [(2, .bool false)] hF (by kernel_rfl) fun a hF => ?_
  refine wpList_nil ?_
  refine hK1 _ _ ?_
  refine wp_seq_k fun K2 hK2 => ?_
  refine wp_seq_k fun K3 hK3 => ?_
  refine wp_region_lit ?_
  refine wl (eM 12 (v := .bool true) hF hM (by kernel_rfl) (yld_call (f := 16) (args := #[]) hF (by kernel_rfl) (fun _ => by kernel_rfl) (fun w hM => works34_w w)) fun a w hF hM => ?_)
  refine sB 1 [(13, .bool false)] hF (by kernel_rfl) fun a hF => ?_
  refine wpList_nil ?_
  refine hK3 _ _ ?_
  refine cF hF (by kernel_rfl) (by kernel_rfl) ?_
  refine wp_skip ?_
  refine hK2 _ _ ?_
  refine wp_seq_k fun K4 hK4 => ?_
  refine wp_region_lit ?_
  refine wl (eL 15 3 0 (v := .agg #[.int .u32 bu, .int .u32 ra, .slice Ga gaps.length cg, .slice Sa sizes.length cs]) hF hM (by kernel_rfl) rfl rfl (by kernel_rfl) (by kernel_rfl) fun a w hF hM => ?_)
  refine wl (sOwn 4 (f := 22) (args := #[.agg #[.int .u32 bu, .int .u32 ra, .slice Ga gaps.length cg, .slice Sa sizes.length cs]]) (mk := fun v => .tuple #[.agg #[.int .i64 fb, .int .i64 fr], v]) (e := 31) (size := 2) (m := lt.length) (xs := (flat2 lt)) hF hM (by kernel_rfl) rfl (by decide) (by kernel_rfl) (fun _ => by kernel_rfl) (by rw [← hlt, ← hfb, ← hfr]; exact fitting_w bu ra Ga gaps cg Sa sizes cs w (hM.ok 1 _ rfl) (hM.ok 2 _ rfl) hg hs (by omega) (by omega) (by omega)) fun AA2 cc2 a w hF hM => ?_)
  refine sB 3 [(14, .tuple #[.agg #[.int .i64 fb, .int .i64 fr], .slice AA2 lt.length cc2]), (17, .agg #[.int .i64 fb, .int .i64 fr]), (18, .slice AA2 lt.length cc2)] hF (by kernel_rfl) fun a hF => ?_
  refine wl (eN 3 5 (t := 23) (fun b => .pointer (some ⟨b, 0, none⟩)) #[.int .i64 0, .int .i64 0] hF hM (by kernel_rfl) (fun _ => by kernel_rfl) fun bb3 a w hF hM => ?_)
  refine wl (sStore (i := 5) (off := 0) (cs' := #[.int .i64 fb, .int .i64 fr]) hF hM (by kernel_rfl) rfl rfl (by kernel_rfl) (by kernel_rfl) rfl (by kernel_rfl) fun w hM => ?_)
  refine sB 1 [(4, .slice AA2 lt.length cc2)] hF (by kernel_rfl) fun a hF => ?_
  refine wpList_nil ?_
  refine hK4 _ _ ?_
  refine wp_seq_k fun K5 hK5 => ?_
  refine wp_region_lit ?_
  refine wl (eL 20 5 0 (v := .agg #[.int .i64 fb, .int .i64 fr]) hF hM (by kernel_rfl) rfl rfl (by kernel_rfl) (by kernel_rfl) fun a w hF hM => ?_)
  refine sB 1 [(21, .slice AA2 lt.length cc2)] hF (by kernel_rfl) fun a hF => ?_
  refine wl (sOwn 6 (f := 19) (args := #[.agg #[.int .i64 fb, .int .i64 fr], .slice AA2 lt.length cc2]) (mk := fun v => .tuple #[v, .int .i64 0]) (e := 3) (size := 1) (m := lt.length) (xs := (og.map (Value.int .i64))) hF hM (by kernel_rfl) rfl (by decide) (by kernel_rfl) (fun _ => by kernel_rfl) (shRun_lit hog (shRun_ok fb fr AA2 lt _ w (ro_of_own (hM.ok 4 _ rfl)) hse)) fun AA4 cc4 a w hF hM => ?_)
  refine sB 5 [(19, .tuple #[.slice AA4 lt.length cc4, .int .i64 0]), (23, .slice AA4 lt.length cc4), (24, .int .i64 0), (5, .slice AA4 lt.length cc4), (6, .int .i64 0)] hF (by kernel_rfl) fun a hF => ?_
  refine wpList_nil ?_
  refine hK5 _ _ ?_
  refine wp_seq_k fun K6 hK6 => ?_
  refine wp_seq_k fun K7 hK7 => ?_
  refine wp_region_lit ?_
  refine sB 1 [(25, .int .i64 0)] hF (by kernel_rfl) fun a hF => ?_
  refine wl (eP 26 (v0 := .bool (!decide (0 = 0))) (v := .bool false) hF (by kernel_rfl) (fun _ => by kernel_rfl) (nT (by omega)) fun a hF => ?_)
  refine sB 5 [(27, .bool false), (28, .slice AA4 lt.length cc4), (29, .int .i64 (lt.length : Int)), (30, .slice AA2 lt.length cc2), (31, .int .i64 (lt.length : Int))] hF (by kernel_rfl) fun a hF => ?_
  refine wl (eP 32 (v0 := .bool (!decide ((lt.length : Int) = (lt.length : Int)))) (v := .bool false) hF (by kernel_rfl) (fun _ => by kernel_rfl) (nT (by omega)) fun a hF => ?_)
  refine sB 1 [(33, .bool false)] hF (by kernel_rfl) fun a hF => ?_
  refine wpList_nil ?_
  refine hK7 _ _ ?_
  refine cF hF (by kernel_rfl) (by kernel_rfl) ?_
  refine wp_skip ?_
  refine hK6 _ _ ?_
  refine wp_seq_k fun K8 hK8 => ?_
  refine wp_region_lit ?_
  refine wl (eN 34 7 (t := 31) (fun b => .slice (some ⟨b, 0, none⟩) 0 0) #[] hF hM (by kernel_rfl) (fun _ => by kernel_rfl) fun bb5 a w hF hM => ?_)
  refine sB 1 [(35, .slice AA2 lt.length cc2)] hF (by kernel_rfl) fun a hF => ?_
  refine wl (sAppR0 36 7 (e := 31) (size := 2) (bytes := 16) (z := .agg #[.int .i64 0, .int .i64 0]) (m := lt.length) (c := cc2) (news := (flat2 lt)) (flat2 lt) hF hM (by kernel_rfl) rfl (by kernel_rfl) (by kernel_rfl) (by kernel_rfl) rfl rfl rfl (by first | exact flat2_length _ | (rw [flat2_length]; omega)) (roO 4 rfl) (flat2_one _) (by omega) (by decide) rfl (own_nil hM (k := 4) rfl) fun AA6 cc6 a w hF hM => ?_)
  refine sB 1 [(7, .slice AA6 lt.length cc6)] hF (by kernel_rfl) fun a hF => ?_
  refine wpList_nil ?_
  refine hK8 _ _ ?_
  refine wp_seq_k fun K9 hK9 => ?_
  refine wp_seq_k fun K10 hK10 => ?_
  refine wp_region_lit ?_
  refine sB 1 [(8, .int .i64 0)] hF (by kernel_rfl) fun a hF => ?_
  refine wpList_nil ?_
  refine hK10 _ _ ?_
  refine wp_block ?_
  refine wp_loop_k (G := Nat × List (Int × Int)) (fun gg a w => Fr 142 [(8, some (.int .i64 (gg.1 : Int))), (3, some (.pointer (some ⟨bb3, 0, none⟩))), (4, some (.slice AA2 lt.length cc2)), (5, some (.slice AA4 lt.length cc4)), (7, some (.slice AA6 lt.length cc6))] a ∧ Mem w0.heap.size w0 [(1, some (.ro Ga (gaps.map (Value.int .u16)))), (2, some (.ro Sa (sizes.map (Value.int .u16)))), (4, some (.own (.slice AA2 lt.length cc2) 31 2 lt.length (flat2 lt))), (5, some (.row bb3 23 #[.int .i64 fb, .int .i64 fr])), (6, some (.own (.slice AA4 lt.length cc4) 3 1 lt.length (og.map (Value.int .i64)))), (7, some (.own (.slice AA6 lt.length cc6) 31 2 lt.length (flat2 gg.2)))] w ∧ ((gg.1 : Int) ≤ (lt.length : Int)) ∧ (gg.2 = shZ fb fr lt gg.1) ∧ ((gg.2.length : Int) = (lt.length : Int))) (fun gg => lt.length - gg.1) (0, lt) ?_ ?_
  · refine ⟨((((((Fr.nil hF).c hF (i := 7) rfl rfl).c hF (i := 5) rfl rfl).c hF (i := 4) rfl rfl).c hF (i := 3) rfl rfl).c hF (i := 8) rfl (vi (show (0 : Int) = (0 : Int) from by omega))), (hM.sub ((((((Sub.nil.c (k := 7) rfl rfl).c (k := 6) rfl rfl).c (k := 5) rfl rfl).c (k := 4) rfl rfl).c (k := 2) rfl rfl).c (k := 1) rfl rfl)), (show (0 : Int) ≤ (lt.length : Int) from by omega), (show lt = shZ fb fr lt 0 from by rfl), (show (lt.length : Int) = (lt.length : Int) from by rfl)⟩
  · intro gg a w hI
    intro K11 hK11
    obtain ⟨k, mm⟩ := gg
    try dsimp only at hI hK11
    obtain ⟨hF, hM, hz1, hz2, hz3⟩ := hI
    have hmm : mm = shZ fb fr lt k := by assumption
    refine wp_seq_k fun K12 hK12 => ?_
    refine wp_seq_k fun K13 hK13 => ?_
    refine wp_region_lit ?_
    refine sB 4 [(37, .int .i64 (k : Int)), (38, .slice AA2 lt.length cc2), (39, .int .i64 (lt.length : Int)), (40, .bool (decide ((k : Int) < (lt.length : Int))))] hF (by kernel_rfl) fun a hF => ?_
    refine wpList_nil ?_
    refine hK13 _ _ ?_
    by_cases hz4 : (k : Int) < (lt.length : Int)
    · skip
      replace hF := hF.c hF (i := 40) (v := .bool true) rfl (bT hz4)
      refine cT hF (by kernel_rfl) (by kernel_rfl) ?_
      refine wp_skip ?_
      refine hK12 _ _ ?_
      refine wp_seq_k fun K14 hK14 => ?_
      refine wp_block ?_
      refine wp_seq_k fun K15 hK15 => ?_
      refine wp_region_lit ?_
      refine sB 4 [(43, .slice AA6 lt.length cc6), (44, .int .i64 (k : Int)), (45, .slice AA4 lt.length cc4), (46, .int .i64 (k : Int))] hF (by kernel_rfl) fun a hF => ?_
      refine wl (eM 47 (v := .pointer (some (ea AA4 (k)))) hF hM (by kernel_rfl) (yld_ix (kd := .i64) (e := 3) (len := lt.length) (cap := cc4) (i := (k : Int)) (size := 1) (A := AA4) hF rfl (by kernel_rfl) (by kernel_rfl) (by kernel_rfl) (by kernel_rfl) (by kernel_rfl) (roO 6 rfl) (by omega) (by omega) (by rw [List.length_map]; omega)) fun a w hF hM => ?_)
      refine wl (eM 48 (v := .int .i64 (nt og k)) hF hM (by kernel_rfl) (yld_ro1 (A := AA4) (j := k) hF rfl (by kernel_rfl) (by kernel_rfl) (roO 6 rfl) (by kernel_rfl) (nt_at (by omega))) fun a w hF hM => ?_)
      refine wl (eM 49 (v := .pointer (some (ea AA6 (k * 2)))) hF hM (by kernel_rfl) (yld_ix (kd := .i64) (e := 31) (len := lt.length) (cap := cc6) (i := (k : Int)) (size := 2) (A := AA6) hF rfl (by kernel_rfl) (by kernel_rfl) (by kernel_rfl) (by kernel_rfl) (by kernel_rfl) (roO 7 rfl) (by omega) (by omega) (by rw [flat2_length]; omega)) fun a w hF hM => ?_)
      refine sB 1 [(50, .pointer (some (ea AA6 (k * 2))))] hF (by kernel_rfl) fun a hF => ?_
      refine wl (sStoreO 7 (j := k * 2) (A := AA6) (flat2 ((mm).set k (nt og k, (pr mm k).2))) hF hM (by kernel_rfl) rfl rfl (by kernel_rfl) (by kernel_rfl) rfl (by kernel_rfl) rfl rfl (by rw [flat2_length]; omega) (flat2_set1 (k := k) _ (by omega) (by omega)) fun w hM => ?_)
      refine wpList_nil ?_
      refine hK15 _ _ ?_
      refine wp_seq_k fun K16 hK16 => ?_
      refine wp_seq_k fun K17 hK17 => ?_
      obtain ⟨m1, hm1⟩ : ∃ z : List (Int × Int), (mm).set k (nt og k, (pr mm k).2) = z := ⟨_, rfl⟩
      rw [hm1] at hM
      have hm1o : m1 = shZ fb fr lt (k + 1) := by rw [← hm1, hoa k (by omega), hmm]; rfl
      have hm1l : m1.length = lt.length := by rw [hm1o, shZ_len]
      have hst := hok.step (k := k) (by omega)
      have hnk := hoa k (by omega)
      have hTk := hT k (by omega)
      have hpk := hpr k (by omega)
      rw [← hnk] at hst hTk
      by_cases hz5 : 0 < (k : Int)
      · skip
        have hnp := hoa (k - 1) (by omega)
        have hmo : nt og (k - 1) ≤ nt og k := by rw [hnp, hnk]; exact shT_mono hfk htr hft (n := k) (by omega) (fun j hj => hT j (by omega)) (k - 1) (by omega)
        obtain ⟨lsl, e_lsl⟩ : ∃ x : List (Int × Int), x = m1.take (((k : Int) + 1).toNat) := ⟨_, rfl⟩
        have len_lsl : (lsl.length : Int) = (k : Int) + 1 := by rw [e_lsl, List.length_take]; omega
        have cap_lsl := own_cap hM (k := 7) rfl
        have hpl : ∀ i, i < k + 1 → pr lsl i = (shT fb fr lt i, (pr lt i).2) := fun i hi => by rw [e_lsl, pr_take (by omega), hm1o, shZ_pr (by omega) i (by omega), if_pos (by omega)]
        have hcfl : cfB fb fr lsl = true := (hok.cf (m := lsl) (by omega) (fun i hi => hpl i (by omega))).1
        refine rQ hM (by kernel_rfl) (by kernel_rfl) ?_
        refine eQ 51 (v0 := .slice AA4 lt.length cc4) (v := .slice AA4 lt.length cc4) hF (by kernel_rfl) (fun _ => by kernel_rfl) rfl fun a hF => ?_
        refine eQ 52 (v0 := .int .i64 (k : Int)) (v := .int .i64 (k : Int)) hF (by kernel_rfl) (fun _ => by kernel_rfl) rfl fun a hF => ?_
        refine eQ2 53 (v := .pointer (some (ea AA4 (k)))) hF (by kernel_rfl) (yld_ix (kd := .i64) (e := 3) (len := lt.length) (cap := cc4) (i := (k : Int)) (size := 1) (A := AA4) hF rfl (by kernel_rfl) (by kernel_rfl) (by kernel_rfl) (by kernel_rfl) (by kernel_rfl) (roO 6 rfl) (by omega) (by omega) (by rw [List.length_map]; omega)) fun a hF => ?_
        refine eQ2 54 (v := .int .i64 (nt og k)) hF (by kernel_rfl) (yld_ro1 (A := AA4) (j := k) hF rfl (by kernel_rfl) (by kernel_rfl) (roO 6 rfl) (by kernel_rfl) (nt_at (by omega))) fun a hF => ?_
        refine eQ 55 (v0 := .slice AA2 lt.length cc2) (v := .slice AA2 lt.length cc2) hF (by kernel_rfl) (fun _ => by kernel_rfl) rfl fun a hF => ?_
        refine eQ 56 (v0 := .int .i64 (k : Int)) (v := .int .i64 (k : Int)) hF (by kernel_rfl) (fun _ => by kernel_rfl) rfl fun a hF => ?_
        refine eQ2 57 (v := .pointer (some (ea AA2 (k * 2)))) hF (by kernel_rfl) (yld_ix (kd := .i64) (e := 31) (len := lt.length) (cap := cc2) (i := (k : Int)) (size := 2) (A := AA2) hF rfl (by kernel_rfl) (by kernel_rfl) (by kernel_rfl) (by kernel_rfl) (by kernel_rfl) (roO 4 rfl) (by omega) (by omega) (by rw [flat2_length]; omega)) fun a hF => ?_
        refine eQ 58 (v0 := .pointer (some (ea AA2 (k * 2)))) (v := .pointer (some (ea AA2 (k * 2)))) hF (by kernel_rfl) (fun _ => by kernel_rfl) rfl fun a hF => ?_
        refine eQ2 59 (v := .int .i64 (pr lt k).1) hF (by kernel_rfl) (yld_ro1 (A := AA2) (j := k * 2) hF rfl (by kernel_rfl) (by kernel_rfl) (roO 4 rfl) (by kernel_rfl) (pr_fst (k := k) (by omega) (by omega))) fun a hF => ?_
        refine eQ 60 (v0 := .bool (decide (nt og k < (pr lt k).1))) (v := .bool false) hF (by kernel_rfl) (fun _ => by kernel_rfl) (bF (by omega)) fun a hF => ?_
        refine eQ 61 (v0 := .bool false) (v := .bool false) hF (by kernel_rfl) (fun _ => by kernel_rfl) rfl fun a hF => ?_
        refine eQ 62 (v0 := .int .i64 (k : Int)) (v := .int .i64 (k : Int)) hF (by kernel_rfl) (fun _ => by kernel_rfl) rfl fun a hF => ?_
        refine eQ 63 (v0 := .bool (decide (0 < (k : Int)))) (v := .bool true) hF (by kernel_rfl) (fun _ => by kernel_rfl) (bT hz5) fun a hF => ?_
        refine eQ 64 (v0 := .bool true) (v := .bool true) hF (by kernel_rfl) (fun _ => by kernel_rfl) rfl fun a hF => ?_
        refine eQ 65 (v0 := .slice AA4 lt.length cc4) (v := .slice AA4 lt.length cc4) hF (by kernel_rfl) (fun _ => by kernel_rfl) rfl fun a hF => ?_
        refine eQ 66 (v0 := .int .i64 (k : Int)) (v := .int .i64 (k : Int)) hF (by kernel_rfl) (fun _ => by kernel_rfl) rfl fun a hF => ?_
        refine eQ2 67 (v := .pointer (some (ea AA4 (k)))) hF (by kernel_rfl) (yld_ix (kd := .i64) (e := 3) (len := lt.length) (cap := cc4) (i := (k : Int)) (size := 1) (A := AA4) hF rfl (by kernel_rfl) (by kernel_rfl) (by kernel_rfl) (by kernel_rfl) (by kernel_rfl) (roO 6 rfl) (by omega) (by omega) (by rw [List.length_map]; omega)) fun a hF => ?_
        refine eQ2 68 (v := .int .i64 (nt og k)) hF (by kernel_rfl) (yld_ro1 (A := AA4) (j := k) hF rfl (by kernel_rfl) (by kernel_rfl) (roO 6 rfl) (by kernel_rfl) (nt_at (by omega))) fun a hF => ?_
        refine eQ 69 (v0 := .slice AA4 lt.length cc4) (v := .slice AA4 lt.length cc4) hF (by kernel_rfl) (fun _ => by kernel_rfl) rfl fun a hF => ?_
        refine eQ 70 (v0 := .int .i64 (k : Int)) (v := .int .i64 (k : Int)) hF (by kernel_rfl) (fun _ => by kernel_rfl) rfl fun a hF => ?_
        refine eQ 71 (v0 := .int .i64 (IntKind.i64.wrap ((k : Int) - 1))) (v := .int .i64 ((k : Int) - 1)) hF (by kernel_rfl) (fun _ => by kernel_rfl) (wi (by omega)) fun a hF => ?_
        refine eQ2 72 (v := .pointer (some (ea AA4 (k - 1)))) hF (by kernel_rfl) (yld_ix (kd := .i64) (e := 3) (len := lt.length) (cap := cc4) (i := (k : Int) - 1) (size := 1) (A := AA4) hF rfl (by kernel_rfl) (by kernel_rfl) (by kernel_rfl) (by kernel_rfl) (by kernel_rfl) (roO 6 rfl) (by omega) (by omega) (by rw [List.length_map]; omega)) fun a hF => ?_
        refine eQ2 73 (v := .int .i64 (nt og (k - 1))) hF (by kernel_rfl) (yld_ro1 (A := AA4) (j := k - 1) hF rfl (by kernel_rfl) (by kernel_rfl) (roO 6 rfl) (by kernel_rfl) (nt_at (by omega))) fun a hF => ?_
        refine eQ 74 (v0 := .bool (decide (nt og k < nt og (k - 1)))) (v := .bool false) hF (by kernel_rfl) (fun _ => by kernel_rfl) (bF (by omega)) fun a hF => ?_
        refine eQ 75 (v0 := .bool false) (v := .bool false) hF (by kernel_rfl) (fun _ => by kernel_rfl) rfl fun a hF => ?_
        refine eQ 76 (v0 := .bool false) (v := .bool false) hF (by kernel_rfl) (fun _ => by kernel_rfl) rfl fun a hF => ?_
        refine eQ 77 (v0 := .bool false) (v := .bool false) hF (by kernel_rfl) (fun _ => by kernel_rfl) rfl fun a hF => ?_
        refine eQL 78 5 0 (v := .agg #[.int .i64 fb, .int .i64 fr]) hF (by kernel_rfl) rfl rfl (by kernel_rfl) (by kernel_rfl) fun a hF => ?_
        refine eQ 79 (v0 := .slice AA6 lt.length cc6) (v := .slice AA6 lt.length cc6) hF (by kernel_rfl) (fun _ => by kernel_rfl) rfl fun a hF => ?_
        refine eQ 80 (v0 := .int .i64 (k : Int)) (v := .int .i64 (k : Int)) hF (by kernel_rfl) (fun _ => by kernel_rfl) rfl fun a hF => ?_
        refine eQ 81 (v0 := .int .i64 (IntKind.i64.wrap ((k : Int) + 1))) (v := .int .i64 ((k : Int) + 1)) hF (by kernel_rfl) (fun _ => by kernel_rfl) (wi (by omega)) fun a hF => ?_
        refine eQ2 82 (v := .slice AA6 lsl.length cc6) hF (by kernel_rfl) (yld_slice0 (e := 31) (len := lt.length) (cap := cc6) (m := lsl.length) (A := AA6) (i := (k : Int) + 1) hF rfl (by kernel_rfl) (by kernel_rfl) (by kernel_rfl) (by kernel_rfl) (by kernel_rfl) (by omega) (by omega)) fun a hF => ?_
        refine eQ2 83 (v := .bool true) hF (by kernel_rfl) (Yld.to (yld_call (f := 25) (args := #[.agg #[.int .i64 fb, .int .i64 fr], .slice AA6 lsl.length cc6]) hF (by kernel_rfl) (fun _ => by kernel_rfl) (fun w hM => conforms34_w fb fr AA6 lsl _ w (ro_sub_own (hM.ok 7 _ rfl) e_lsl))) (congrArg Value.bool hcfl)) fun a hF => ?_
        refine eQ 84 (v0 := .bool false) (v := .bool false) hF (by kernel_rfl) (fun _ => by kernel_rfl) rfl fun a hF => ?_
        refine eQ 85 (v0 := .bool false) (v := .bool false) hF (by kernel_rfl) (fun _ => by kernel_rfl) rfl fun a hF => ?_
        refine wpQuiet_nil ?_
        intro w hM
        refine hK17 _ _ ?_
        refine cF hF (by kernel_rfl) (by kernel_rfl) ?_
        refine wp_skip ?_
        refine hK16 _ _ ?_
        refine wp_seq_k fun K18 hK18 => ?_
        refine wp_seq_k fun K19 hK19 => ?_
        by_cases hz6 : nt og k = (pr lt k).1
        · skip
          refine rQ hM (by kernel_rfl) (by kernel_rfl) ?_
          refine eQ 86 (v0 := .slice AA4 lt.length cc4) (v := .slice AA4 lt.length cc4) hF (by kernel_rfl) (fun _ => by kernel_rfl) rfl fun a hF => ?_
          refine eQ 87 (v0 := .int .i64 (k : Int)) (v := .int .i64 (k : Int)) hF (by kernel_rfl) (fun _ => by kernel_rfl) rfl fun a hF => ?_
          refine eQ2 88 (v := .pointer (some (ea AA4 (k)))) hF (by kernel_rfl) (yld_ix (kd := .i64) (e := 3) (len := lt.length) (cap := cc4) (i := (k : Int)) (size := 1) (A := AA4) hF rfl (by kernel_rfl) (by kernel_rfl) (by kernel_rfl) (by kernel_rfl) (by kernel_rfl) (roO 6 rfl) (by omega) (by omega) (by rw [List.length_map]; omega)) fun a hF => ?_
          refine eQ2 89 (v := .int .i64 (nt og k)) hF (by kernel_rfl) (yld_ro1 (A := AA4) (j := k) hF rfl (by kernel_rfl) (by kernel_rfl) (roO 6 rfl) (by kernel_rfl) (nt_at (by omega))) fun a hF => ?_
          refine eQ 90 (v0 := .slice AA2 lt.length cc2) (v := .slice AA2 lt.length cc2) hF (by kernel_rfl) (fun _ => by kernel_rfl) rfl fun a hF => ?_
          refine eQ 91 (v0 := .int .i64 (k : Int)) (v := .int .i64 (k : Int)) hF (by kernel_rfl) (fun _ => by kernel_rfl) rfl fun a hF => ?_
          refine eQ2 92 (v := .pointer (some (ea AA2 (k * 2)))) hF (by kernel_rfl) (yld_ix (kd := .i64) (e := 31) (len := lt.length) (cap := cc2) (i := (k : Int)) (size := 2) (A := AA2) hF rfl (by kernel_rfl) (by kernel_rfl) (by kernel_rfl) (by kernel_rfl) (by kernel_rfl) (roO 4 rfl) (by omega) (by omega) (by rw [flat2_length]; omega)) fun a hF => ?_
          refine eQ 93 (v0 := .pointer (some (ea AA2 (k * 2)))) (v := .pointer (some (ea AA2 (k * 2)))) hF (by kernel_rfl) (fun _ => by kernel_rfl) rfl fun a hF => ?_
          refine eQ2 94 (v := .int .i64 (pr lt k).1) hF (by kernel_rfl) (yld_ro1 (A := AA2) (j := k * 2) hF rfl (by kernel_rfl) (by kernel_rfl) (roO 4 rfl) (by kernel_rfl) (pr_fst (k := k) (by omega) (by omega))) fun a hF => ?_
          refine eQ 95 (v0 := .bool (decide (nt og k = (pr lt k).1))) (v := .bool true) hF (by kernel_rfl) (fun _ => by kernel_rfl) (bT hz6) fun a hF => ?_
          refine eQ 96 (v0 := .bool true) (v := .bool true) hF (by kernel_rfl) (fun _ => by kernel_rfl) rfl fun a hF => ?_
          refine qSkip hF (by kernel_rfl) rfl (by decide) fun a hF => ?_
          refine qSkip hF (by kernel_rfl) rfl (by decide) fun a hF => ?_
          refine qSkip hF (by kernel_rfl) rfl (by decide) fun a hF => ?_
          refine qSkip hF (by kernel_rfl) rfl (by decide) fun a hF => ?_
          refine qSkip hF (by kernel_rfl) rfl (by decide) fun a hF => ?_
          refine qSkip hF (by kernel_rfl) rfl (by decide) fun a hF => ?_
          refine qSkip hF (by kernel_rfl) rfl (by decide) fun a hF => ?_
          refine qSkip hF (by kernel_rfl) rfl (by decide) fun a hF => ?_
          refine qSkip hF (by kernel_rfl) rfl (by decide) fun a hF => ?_
          refine qSkip hF (by kernel_rfl) rfl (by decide) fun a hF => ?_
          refine qSkip hF (by kernel_rfl) rfl (by decide) fun a hF => ?_
          refine qSkip hF (by kernel_rfl) rfl (by decide) fun a hF => ?_
          refine qSkip hF (by kernel_rfl) rfl (by decide) fun a hF => ?_
          refine qSkip hF (by kernel_rfl) rfl (by decide) fun a hF => ?_
          refine eQ 111 (v0 := .bool true) (v := .bool true) hF (by kernel_rfl) (fun _ => by kernel_rfl) rfl fun a hF => ?_
          refine wpQuiet_nil ?_
          intro w hM
          refine hK19 _ _ ?_
          refine cT hF (by kernel_rfl) (by kernel_rfl) ?_
          refine wp_exit ?_
          refine hK14 _ _ ?_
          refine wp_region_lit ?_
          refine sB 1 [(41, .int .i64 (k : Int))] hF (by kernel_rfl) fun a hF => ?_
          refine wl (eP 42 (v0 := .int .i64 (IntKind.i64.wrap ((k : Int) + 1))) (v := .int .i64 ((k : Int) + 1)) hF (by kernel_rfl) (fun _ => by kernel_rfl) (wi (by omega)) fun a hF => ?_)
          refine sB 1 [(8, .int .i64 ((k : Int) + 1))] hF (by kernel_rfl) fun a hF => ?_
          refine wpList_nil ?_
          refine hK11 _ _ ⟨(k + 1, m1), ⟨((((((Fr.nil hF).c hF (i := 7) rfl rfl).c hF (i := 5) rfl rfl).c hF (i := 4) rfl rfl).c hF (i := 3) rfl rfl).c hF (i := 8) rfl (vi (show ((k : Int) + 1 : Int) = ((k + 1) : Int) from by omega))), (hM.sub ((((((Sub.nil.c (k := 7) rfl rfl).c (k := 6) rfl rfl).c (k := 5) rfl rfl).c (k := 4) rfl rfl).c (k := 2) rfl rfl).c (k := 1) rfl rfl)), (show ((k + 1) : Int) ≤ (lt.length : Int) from by omega), (show m1 = shZ fb fr lt (k + 1) from by exact hm1o), (show (m1.length : Int) = (lt.length : Int) from by omega)⟩, (show lt.length - (k + 1) < lt.length - k from by omega)⟩
        · skip
          refine rQ hM (by kernel_rfl) (by kernel_rfl) ?_
          refine eQ 86 (v0 := .slice AA4 lt.length cc4) (v := .slice AA4 lt.length cc4) hF (by kernel_rfl) (fun _ => by kernel_rfl) rfl fun a hF => ?_
          refine eQ 87 (v0 := .int .i64 (k : Int)) (v := .int .i64 (k : Int)) hF (by kernel_rfl) (fun _ => by kernel_rfl) rfl fun a hF => ?_
          refine eQ2 88 (v := .pointer (some (ea AA4 (k)))) hF (by kernel_rfl) (yld_ix (kd := .i64) (e := 3) (len := lt.length) (cap := cc4) (i := (k : Int)) (size := 1) (A := AA4) hF rfl (by kernel_rfl) (by kernel_rfl) (by kernel_rfl) (by kernel_rfl) (by kernel_rfl) (roO 6 rfl) (by omega) (by omega) (by rw [List.length_map]; omega)) fun a hF => ?_
          refine eQ2 89 (v := .int .i64 (nt og k)) hF (by kernel_rfl) (yld_ro1 (A := AA4) (j := k) hF rfl (by kernel_rfl) (by kernel_rfl) (roO 6 rfl) (by kernel_rfl) (nt_at (by omega))) fun a hF => ?_
          refine eQ 90 (v0 := .slice AA2 lt.length cc2) (v := .slice AA2 lt.length cc2) hF (by kernel_rfl) (fun _ => by kernel_rfl) rfl fun a hF => ?_
          refine eQ 91 (v0 := .int .i64 (k : Int)) (v := .int .i64 (k : Int)) hF (by kernel_rfl) (fun _ => by kernel_rfl) rfl fun a hF => ?_
          refine eQ2 92 (v := .pointer (some (ea AA2 (k * 2)))) hF (by kernel_rfl) (yld_ix (kd := .i64) (e := 31) (len := lt.length) (cap := cc2) (i := (k : Int)) (size := 2) (A := AA2) hF rfl (by kernel_rfl) (by kernel_rfl) (by kernel_rfl) (by kernel_rfl) (by kernel_rfl) (roO 4 rfl) (by omega) (by omega) (by rw [flat2_length]; omega)) fun a hF => ?_
          refine eQ 93 (v0 := .pointer (some (ea AA2 (k * 2)))) (v := .pointer (some (ea AA2 (k * 2)))) hF (by kernel_rfl) (fun _ => by kernel_rfl) rfl fun a hF => ?_
          refine eQ2 94 (v := .int .i64 (pr lt k).1) hF (by kernel_rfl) (yld_ro1 (A := AA2) (j := k * 2) hF rfl (by kernel_rfl) (by kernel_rfl) (roO 4 rfl) (by kernel_rfl) (pr_fst (k := k) (by omega) (by omega))) fun a hF => ?_
          refine eQ 95 (v0 := .bool (decide (nt og k = (pr lt k).1))) (v := .bool false) hF (by kernel_rfl) (fun _ => by kernel_rfl) (bF hz6) fun a hF => ?_
          refine eQ 96 (v0 := .bool false) (v := .bool false) hF (by kernel_rfl) (fun _ => by kernel_rfl) rfl fun a hF => ?_
          refine eQ 97 (v0 := .int .i64 (k : Int)) (v := .int .i64 (k : Int)) hF (by kernel_rfl) (fun _ => by kernel_rfl) rfl fun a hF => ?_
          refine eQ 98 (v0 := .bool (decide (0 < (k : Int)))) (v := .bool true) hF (by kernel_rfl) (fun _ => by kernel_rfl) (bT hz5) fun a hF => ?_
          refine eQ 99 (v0 := .bool true) (v := .bool true) hF (by kernel_rfl) (fun _ => by kernel_rfl) rfl fun a hF => ?_
          refine eQ 100 (v0 := .slice AA4 lt.length cc4) (v := .slice AA4 lt.length cc4) hF (by kernel_rfl) (fun _ => by kernel_rfl) rfl fun a hF => ?_
          refine eQ 101 (v0 := .int .i64 (k : Int)) (v := .int .i64 (k : Int)) hF (by kernel_rfl) (fun _ => by kernel_rfl) rfl fun a hF => ?_
          refine eQ2 102 (v := .pointer (some (ea AA4 (k)))) hF (by kernel_rfl) (yld_ix (kd := .i64) (e := 3) (len := lt.length) (cap := cc4) (i := (k : Int)) (size := 1) (A := AA4) hF rfl (by kernel_rfl) (by kernel_rfl) (by kernel_rfl) (by kernel_rfl) (by kernel_rfl) (roO 6 rfl) (by omega) (by omega) (by rw [List.length_map]; omega)) fun a hF => ?_
          refine eQ2 103 (v := .int .i64 (nt og k)) hF (by kernel_rfl) (yld_ro1 (A := AA4) (j := k) hF rfl (by kernel_rfl) (by kernel_rfl) (roO 6 rfl) (by kernel_rfl) (nt_at (by omega))) fun a hF => ?_
          refine eQ 104 (v0 := .slice AA4 lt.length cc4) (v := .slice AA4 lt.length cc4) hF (by kernel_rfl) (fun _ => by kernel_rfl) rfl fun a hF => ?_
          refine eQ 105 (v0 := .int .i64 (k : Int)) (v := .int .i64 (k : Int)) hF (by kernel_rfl) (fun _ => by kernel_rfl) rfl fun a hF => ?_
          refine eQ 106 (v0 := .int .i64 (IntKind.i64.wrap ((k : Int) - 1))) (v := .int .i64 ((k : Int) - 1)) hF (by kernel_rfl) (fun _ => by kernel_rfl) (wi (by omega)) fun a hF => ?_
          refine eQ2 107 (v := .pointer (some (ea AA4 (k - 1)))) hF (by kernel_rfl) (yld_ix (kd := .i64) (e := 3) (len := lt.length) (cap := cc4) (i := (k : Int) - 1) (size := 1) (A := AA4) hF rfl (by kernel_rfl) (by kernel_rfl) (by kernel_rfl) (by kernel_rfl) (by kernel_rfl) (roO 6 rfl) (by omega) (by omega) (by rw [List.length_map]; omega)) fun a hF => ?_
          refine eQ2 108 (v := .int .i64 (nt og (k - 1))) hF (by kernel_rfl) (yld_ro1 (A := AA4) (j := k - 1) hF rfl (by kernel_rfl) (by kernel_rfl) (roO 6 rfl) (by kernel_rfl) (nt_at (by omega))) fun a hF => ?_
          refine eQ 109 (v0 := .bool (decide (nt og k = nt og (k - 1)))) (v := .bool (decide (nt og k = nt og (k - 1)))) hF (by kernel_rfl) (fun _ => by kernel_rfl) rfl fun a hF => ?_
          refine eQ 110 (v0 := .bool (decide (nt og k = nt og (k - 1)))) (v := .bool (decide (nt og k = nt og (k - 1)))) hF (by kernel_rfl) (fun _ => by kernel_rfl) rfl fun a hF => ?_
          refine eQ 111 (v0 := .bool (decide (nt og k = nt og (k - 1)))) (v := .bool (decide (nt og k = nt og (k - 1)))) hF (by kernel_rfl) (fun _ => by kernel_rfl) rfl fun a hF => ?_
          refine wpQuiet_nil ?_
          intro w hM
          refine hK19 _ _ ?_
          by_cases hz7 : nt og k = nt og (k - 1)
          · skip
            replace hF := hF.c hF (i := 109) (v := .bool true) rfl (bT hz7)
            replace hF := hF.c hF (i := 110) (v := .bool true) rfl (bT hz7)
            replace hF := hF.c hF (i := 111) (v := .bool true) rfl (bT hz7)
            refine cT hF (by kernel_rfl) (by kernel_rfl) ?_
            refine wp_exit ?_
            refine hK14 _ _ ?_
            refine wp_region_lit ?_
            refine sB 1 [(41, .int .i64 (k : Int))] hF (by kernel_rfl) fun a hF => ?_
            refine wl (eP 42 (v0 := .int .i64 (IntKind.i64.wrap ((k : Int) + 1))) (v := .int .i64 ((k : Int) + 1)) hF (by kernel_rfl) (fun _ => by kernel_rfl) (wi (by omega)) fun a hF => ?_)
            refine sB 1 [(8, .int .i64 ((k : Int) + 1))] hF (by kernel_rfl) fun a hF => ?_
            refine wpList_nil ?_
            refine hK11 _ _ ⟨(k + 1, m1), ⟨((((((Fr.nil hF).c hF (i := 7) rfl rfl).c hF (i := 5) rfl rfl).c hF (i := 4) rfl rfl).c hF (i := 3) rfl rfl).c hF (i := 8) rfl (vi (show ((k : Int) + 1 : Int) = ((k + 1) : Int) from by omega))), (hM.sub ((((((Sub.nil.c (k := 7) rfl rfl).c (k := 6) rfl rfl).c (k := 5) rfl rfl).c (k := 4) rfl rfl).c (k := 2) rfl rfl).c (k := 1) rfl rfl)), (show ((k + 1) : Int) ≤ (lt.length : Int) from by omega), (show m1 = shZ fb fr lt (k + 1) from by exact hm1o), (show (m1.length : Int) = (lt.length : Int) from by omega)⟩, (show lt.length - (k + 1) < lt.length - k from by omega)⟩
          · skip
            replace hF := hF.c hF (i := 109) (v := .bool false) rfl (bF hz7)
            replace hF := hF.c hF (i := 110) (v := .bool false) rfl (bF hz7)
            replace hF := hF.c hF (i := 111) (v := .bool false) rfl (bF hz7)
            refine cF hF (by kernel_rfl) (by kernel_rfl) ?_
            refine wp_skip ?_
            refine hK18 _ _ ?_
            refine wp_seq_k fun K20 hK20 => ?_
            refine wp_region_lit ?_
            refine wl (eN 112 8 (t := 31) (fun b => .slice (some ⟨b, 0, none⟩) 0 0) #[] hF hM (by kernel_rfl) (fun _ => by kernel_rfl) fun bb7 a w hF hM => ?_)
            refine sB 2 [(113, .slice AA6 lt.length cc6), (114, .int .i64 (k : Int))] hF (by kernel_rfl) fun a hF => ?_
            refine wl (eP 115 (v0 := .int .i64 (IntKind.i64.wrap ((k : Int) + 1))) (v := .int .i64 ((k : Int) + 1)) hF (by kernel_rfl) (fun _ => by kernel_rfl) (wi (by omega)) fun a hF => ?_)
            refine wl (eM 116 (v := .slice AA6 lsl.length cc6) hF hM (by kernel_rfl) (yld_slice0 (e := 31) (len := lt.length) (cap := cc6) (m := lsl.length) (A := AA6) (i := (k : Int) + 1) hF rfl (by kernel_rfl) (by kernel_rfl) (by kernel_rfl) (by kernel_rfl) (by kernel_rfl) (by omega) (by omega)) fun a w hF hM => ?_)
            refine wl (sAppR0 117 8 (e := 31) (size := 2) (bytes := 16) (z := .agg #[.int .i64 0, .int .i64 0]) (m := lsl.length) (c := cc6) (news := (flat2 lsl)) (flat2 lsl) hF hM (by kernel_rfl) rfl (by kernel_rfl) (by kernel_rfl) (by kernel_rfl) rfl rfl rfl (by first | exact flat2_length _ | (rw [flat2_length]; omega)) (fun w hM => ro_sub_own (hM.ok 7 _ rfl) e_lsl) (flat2_one _) (by omega) (by decide) rfl (fun h => by have := own_nil hM (k := 7) rfl h; first | omega | (simp; omega)) fun AA8 cc8 a w hF hM => ?_)
            refine sB 1 [(9, .slice AA8 lsl.length cc8)] hF (by kernel_rfl) fun a hF => ?_
            refine wpList_nil ?_
            refine hK20 _ _ ?_
            refine wp_seq_k fun K21 hK21 => ?_
            have hlk := hpl k (by omega)
            have hlk1 : (pr lsl k).1 = nt og k := by rw [hlk, hnk]
            refine wp_region_lit ?_
            refine sB 2 [(118, .slice AA8 lsl.length cc8), (119, .int .i64 (k : Int))] hF (by kernel_rfl) fun a hF => ?_
            refine wl (eM 120 (v := .pointer (some (ea AA8 (k * 2)))) hF hM (by kernel_rfl) (yld_ix (kd := .i64) (e := 31) (len := lsl.length) (cap := cc8) (i := (k : Int)) (size := 2) (A := AA8) hF rfl (by kernel_rfl) (by kernel_rfl) (by kernel_rfl) (by kernel_rfl) (by kernel_rfl) (roO 8 rfl) (by omega) (by omega) (by rw [flat2_length]; omega)) fun a w hF hM => ?_)
            refine sB 1 [(121, .pointer (some (ea AA8 (k * 2))))] hF (by kernel_rfl) fun a hF => ?_
            refine wl (eM 122 (v := .int .i64 (pr lsl k).1) hF hM (by kernel_rfl) (yld_ro1 (A := AA8) (j := k * 2) hF rfl (by kernel_rfl) (by kernel_rfl) (roO 8 rfl) (by kernel_rfl) (pr_fst (k := k) (by omega) (by omega))) fun a w hF hM => ?_)
            refine wl (eP 123 (v0 := .int .i64 (IntKind.i64.wrap ((pr lsl k).1 - 1))) (v := .int .i64 ((pr lsl k).1 - 1)) hF (by kernel_rfl) (fun _ => by kernel_rfl) (wi (by omega)) fun a hF => ?_)
            refine wl (eM 124 (v := .pointer (some (ea AA8 (k * 2)))) hF hM (by kernel_rfl) (yld_ix (kd := .i64) (e := 31) (len := lsl.length) (cap := cc8) (i := (k : Int)) (size := 2) (A := AA8) hF rfl (by kernel_rfl) (by kernel_rfl) (by kernel_rfl) (by kernel_rfl) (by kernel_rfl) (roO 8 rfl) (by omega) (by omega) (by rw [flat2_length]; omega)) fun a w hF hM => ?_)
            refine sB 1 [(125, .pointer (some (ea AA8 (k * 2))))] hF (by kernel_rfl) fun a hF => ?_
            refine wl (sStoreO 8 (j := k * 2) (A := AA8) (flat2 ((lsl).set k ((pr lsl k).1 - 1, (pr lsl k).2))) hF hM (by kernel_rfl) rfl rfl (by kernel_rfl) (by kernel_rfl) rfl (by kernel_rfl) rfl rfl (by rw [flat2_length]; omega) (flat2_set1 (k := k) _ (by omega) (by omega)) fun w hM => ?_)
            refine wpList_nil ?_
            refine hK21 _ _ ?_
            refine wp_seq_k fun K22 hK22 => ?_
            obtain ⟨ea, hea⟩ : ∃ z : List (Int × Int), (lsl).set k ((pr lsl k).1 - 1, (pr lsl k).2) = z := ⟨_, rfl⟩
            rw [hea] at hM
            have heal : ea.length = lsl.length := by rw [← hea, List.length_set]
            have hce : cfB fb fr ea = false := hok.early (n := k) (by omega) (by omega) (fun i hi => by rw [← hea, pr_set (by omega), if_neg (by omega)]; exact hpl i (by omega)) (by rw [← hea, pr_set (by omega), if_pos rfl, hlk]) (by rw [← hnk]; omega) (fun h0 => by rw [← hnk, ← hoa (k - 1) (by omega)]; omega)
            refine wp_region_lit ?_
            refine wl (eL 126 5 0 (v := .agg #[.int .i64 fb, .int .i64 fr]) hF hM (by kernel_rfl) rfl rfl (by kernel_rfl) (by kernel_rfl) fun a w hF hM => ?_)
            refine sB 1 [(127, .slice AA8 lsl.length cc8)] hF (by kernel_rfl) fun a hF => ?_
            refine wl (eM 128 (v := .bool false) hF hM (by kernel_rfl) (Yld.to (yld_call (f := 25) (args := #[.agg #[.int .i64 fb, .int .i64 fr], .slice AA8 lsl.length cc8]) hF (by kernel_rfl) (fun _ => by kernel_rfl) (fun w hM => (by rw [show lsl.length = ea.length from by first | omega | (simp; done) | (simp; omega)]; exact conforms34_w fb fr AA8 ea _ w (ro_of_own (hM.ok 8 _ rfl))))) (congrArg Value.bool hce)) fun a w hF hM => ?_)
            refine wpList_nil ?_
            refine hK22 _ _ ?_
            refine cF hF (by kernel_rfl) (by kernel_rfl) ?_
            refine wp_skip ?_
            refine hK14 _ _ ?_
            refine wp_region_lit ?_
            refine sB 1 [(41, .int .i64 (k : Int))] hF (by kernel_rfl) fun a hF => ?_
            refine wl (eP 42 (v0 := .int .i64 (IntKind.i64.wrap ((k : Int) + 1))) (v := .int .i64 ((k : Int) + 1)) hF (by kernel_rfl) (fun _ => by kernel_rfl) (wi (by omega)) fun a hF => ?_)
            refine sB 1 [(8, .int .i64 ((k : Int) + 1))] hF (by kernel_rfl) fun a hF => ?_
            refine wpList_nil ?_
            refine hK11 _ _ ⟨(k + 1, m1), ⟨((((((Fr.nil hF).c hF (i := 7) rfl rfl).c hF (i := 5) rfl rfl).c hF (i := 4) rfl rfl).c hF (i := 3) rfl rfl).c hF (i := 8) rfl (vi (show ((k : Int) + 1 : Int) = ((k + 1) : Int) from by omega))), (hM.sub ((((((Sub.nil.c (k := 7) rfl rfl).c (k := 6) rfl rfl).c (k := 5) rfl rfl).c (k := 4) rfl rfl).c (k := 2) rfl rfl).c (k := 1) rfl rfl)), (show ((k + 1) : Int) ≤ (lt.length : Int) from by omega), (show m1 = shZ fb fr lt (k + 1) from by exact hm1o), (show (m1.length : Int) = (lt.length : Int) from by omega)⟩, (show lt.length - (k + 1) < lt.length - k from by omega)⟩
      · skip
        obtain ⟨lsl, e_lsl⟩ : ∃ x : List (Int × Int), x = m1.take (((k : Int) + 1).toNat) := ⟨_, rfl⟩
        have len_lsl : (lsl.length : Int) = (k : Int) + 1 := by rw [e_lsl, List.length_take]; omega
        have cap_lsl := own_cap hM (k := 7) rfl
        have hpl : ∀ i, i < k + 1 → pr lsl i = (shT fb fr lt i, (pr lt i).2) := fun i hi => by rw [e_lsl, pr_take (by omega), hm1o, shZ_pr (by omega) i (by omega), if_pos (by omega)]
        have hcfl : cfB fb fr lsl = true := (hok.cf (m := lsl) (by omega) (fun i hi => hpl i (by omega))).1
        refine rQ hM (by kernel_rfl) (by kernel_rfl) ?_
        refine eQ 51 (v0 := .slice AA4 lt.length cc4) (v := .slice AA4 lt.length cc4) hF (by kernel_rfl) (fun _ => by kernel_rfl) rfl fun a hF => ?_
        refine eQ 52 (v0 := .int .i64 (k : Int)) (v := .int .i64 (k : Int)) hF (by kernel_rfl) (fun _ => by kernel_rfl) rfl fun a hF => ?_
        refine eQ2 53 (v := .pointer (some (ea AA4 (k)))) hF (by kernel_rfl) (yld_ix (kd := .i64) (e := 3) (len := lt.length) (cap := cc4) (i := (k : Int)) (size := 1) (A := AA4) hF rfl (by kernel_rfl) (by kernel_rfl) (by kernel_rfl) (by kernel_rfl) (by kernel_rfl) (roO 6 rfl) (by omega) (by omega) (by rw [List.length_map]; omega)) fun a hF => ?_
        refine eQ2 54 (v := .int .i64 (nt og k)) hF (by kernel_rfl) (yld_ro1 (A := AA4) (j := k) hF rfl (by kernel_rfl) (by kernel_rfl) (roO 6 rfl) (by kernel_rfl) (nt_at (by omega))) fun a hF => ?_
        refine eQ 55 (v0 := .slice AA2 lt.length cc2) (v := .slice AA2 lt.length cc2) hF (by kernel_rfl) (fun _ => by kernel_rfl) rfl fun a hF => ?_
        refine eQ 56 (v0 := .int .i64 (k : Int)) (v := .int .i64 (k : Int)) hF (by kernel_rfl) (fun _ => by kernel_rfl) rfl fun a hF => ?_
        refine eQ2 57 (v := .pointer (some (ea AA2 (k * 2)))) hF (by kernel_rfl) (yld_ix (kd := .i64) (e := 31) (len := lt.length) (cap := cc2) (i := (k : Int)) (size := 2) (A := AA2) hF rfl (by kernel_rfl) (by kernel_rfl) (by kernel_rfl) (by kernel_rfl) (by kernel_rfl) (roO 4 rfl) (by omega) (by omega) (by rw [flat2_length]; omega)) fun a hF => ?_
        refine eQ 58 (v0 := .pointer (some (ea AA2 (k * 2)))) (v := .pointer (some (ea AA2 (k * 2)))) hF (by kernel_rfl) (fun _ => by kernel_rfl) rfl fun a hF => ?_
        refine eQ2 59 (v := .int .i64 (pr lt k).1) hF (by kernel_rfl) (yld_ro1 (A := AA2) (j := k * 2) hF rfl (by kernel_rfl) (by kernel_rfl) (roO 4 rfl) (by kernel_rfl) (pr_fst (k := k) (by omega) (by omega))) fun a hF => ?_
        refine eQ 60 (v0 := .bool (decide (nt og k < (pr lt k).1))) (v := .bool false) hF (by kernel_rfl) (fun _ => by kernel_rfl) (bF (by omega)) fun a hF => ?_
        refine eQ 61 (v0 := .bool false) (v := .bool false) hF (by kernel_rfl) (fun _ => by kernel_rfl) rfl fun a hF => ?_
        refine eQ 62 (v0 := .int .i64 (k : Int)) (v := .int .i64 (k : Int)) hF (by kernel_rfl) (fun _ => by kernel_rfl) rfl fun a hF => ?_
        refine eQ 63 (v0 := .bool (decide (0 < (k : Int)))) (v := .bool false) hF (by kernel_rfl) (fun _ => by kernel_rfl) (bF hz5) fun a hF => ?_
        refine eQ 64 (v0 := .bool false) (v := .bool false) hF (by kernel_rfl) (fun _ => by kernel_rfl) rfl fun a hF => ?_
        refine qSkip hF (by kernel_rfl) rfl (by decide) fun a hF => ?_
        refine qSkip hF (by kernel_rfl) rfl (by decide) fun a hF => ?_
        refine qSkip hF (by kernel_rfl) rfl (by decide) fun a hF => ?_
        refine qSkip hF (by kernel_rfl) rfl (by decide) fun a hF => ?_
        refine qSkip hF (by kernel_rfl) rfl (by decide) fun a hF => ?_
        refine qSkip hF (by kernel_rfl) rfl (by decide) fun a hF => ?_
        refine qSkip hF (by kernel_rfl) rfl (by decide) fun a hF => ?_
        refine qSkip hF (by kernel_rfl) rfl (by decide) fun a hF => ?_
        refine qSkip hF (by kernel_rfl) rfl (by decide) fun a hF => ?_
        refine qSkip hF (by kernel_rfl) rfl (by decide) fun a hF => ?_
        refine eQ 75 (v0 := .bool false) (v := .bool false) hF (by kernel_rfl) (fun _ => by kernel_rfl) rfl fun a hF => ?_
        refine eQ 76 (v0 := .bool false) (v := .bool false) hF (by kernel_rfl) (fun _ => by kernel_rfl) rfl fun a hF => ?_
        refine eQ 77 (v0 := .bool false) (v := .bool false) hF (by kernel_rfl) (fun _ => by kernel_rfl) rfl fun a hF => ?_
        refine eQL 78 5 0 (v := .agg #[.int .i64 fb, .int .i64 fr]) hF (by kernel_rfl) rfl rfl (by kernel_rfl) (by kernel_rfl) fun a hF => ?_
        refine eQ 79 (v0 := .slice AA6 lt.length cc6) (v := .slice AA6 lt.length cc6) hF (by kernel_rfl) (fun _ => by kernel_rfl) rfl fun a hF => ?_
        refine eQ 80 (v0 := .int .i64 (k : Int)) (v := .int .i64 (k : Int)) hF (by kernel_rfl) (fun _ => by kernel_rfl) rfl fun a hF => ?_
        refine eQ 81 (v0 := .int .i64 (IntKind.i64.wrap ((k : Int) + 1))) (v := .int .i64 ((k : Int) + 1)) hF (by kernel_rfl) (fun _ => by kernel_rfl) (wi (by omega)) fun a hF => ?_
        refine eQ2 82 (v := .slice AA6 lsl.length cc6) hF (by kernel_rfl) (yld_slice0 (e := 31) (len := lt.length) (cap := cc6) (m := lsl.length) (A := AA6) (i := (k : Int) + 1) hF rfl (by kernel_rfl) (by kernel_rfl) (by kernel_rfl) (by kernel_rfl) (by kernel_rfl) (by omega) (by omega)) fun a hF => ?_
        refine eQ2 83 (v := .bool true) hF (by kernel_rfl) (Yld.to (yld_call (f := 25) (args := #[.agg #[.int .i64 fb, .int .i64 fr], .slice AA6 lsl.length cc6]) hF (by kernel_rfl) (fun _ => by kernel_rfl) (fun w hM => conforms34_w fb fr AA6 lsl _ w (ro_sub_own (hM.ok 7 _ rfl) e_lsl))) (congrArg Value.bool hcfl)) fun a hF => ?_
        refine eQ 84 (v0 := .bool false) (v := .bool false) hF (by kernel_rfl) (fun _ => by kernel_rfl) rfl fun a hF => ?_
        refine eQ 85 (v0 := .bool false) (v := .bool false) hF (by kernel_rfl) (fun _ => by kernel_rfl) rfl fun a hF => ?_
        refine wpQuiet_nil ?_
        intro w hM
        refine hK17 _ _ ?_
        refine cF hF (by kernel_rfl) (by kernel_rfl) ?_
        refine wp_skip ?_
        refine hK16 _ _ ?_
        refine wp_seq_k fun K23 hK23 => ?_
        refine wp_seq_k fun K24 hK24 => ?_
        by_cases hz8 : nt og k = (pr lt k).1
        · skip
          refine rQ hM (by kernel_rfl) (by kernel_rfl) ?_
          refine eQ 86 (v0 := .slice AA4 lt.length cc4) (v := .slice AA4 lt.length cc4) hF (by kernel_rfl) (fun _ => by kernel_rfl) rfl fun a hF => ?_
          refine eQ 87 (v0 := .int .i64 (k : Int)) (v := .int .i64 (k : Int)) hF (by kernel_rfl) (fun _ => by kernel_rfl) rfl fun a hF => ?_
          refine eQ2 88 (v := .pointer (some (ea AA4 (k)))) hF (by kernel_rfl) (yld_ix (kd := .i64) (e := 3) (len := lt.length) (cap := cc4) (i := (k : Int)) (size := 1) (A := AA4) hF rfl (by kernel_rfl) (by kernel_rfl) (by kernel_rfl) (by kernel_rfl) (by kernel_rfl) (roO 6 rfl) (by omega) (by omega) (by rw [List.length_map]; omega)) fun a hF => ?_
          refine eQ2 89 (v := .int .i64 (nt og k)) hF (by kernel_rfl) (yld_ro1 (A := AA4) (j := k) hF rfl (by kernel_rfl) (by kernel_rfl) (roO 6 rfl) (by kernel_rfl) (nt_at (by omega))) fun a hF => ?_
          refine eQ 90 (v0 := .slice AA2 lt.length cc2) (v := .slice AA2 lt.length cc2) hF (by kernel_rfl) (fun _ => by kernel_rfl) rfl fun a hF => ?_
          refine eQ 91 (v0 := .int .i64 (k : Int)) (v := .int .i64 (k : Int)) hF (by kernel_rfl) (fun _ => by kernel_rfl) rfl fun a hF => ?_
          refine eQ2 92 (v := .pointer (some (ea AA2 (k * 2)))) hF (by kernel_rfl) (yld_ix (kd := .i64) (e := 31) (len := lt.length) (cap := cc2) (i := (k : Int)) (size := 2) (A := AA2) hF rfl (by kernel_rfl) (by kernel_rfl) (by kernel_rfl) (by kernel_rfl) (by kernel_rfl) (roO 4 rfl) (by omega) (by omega) (by rw [flat2_length]; omega)) fun a hF => ?_
          refine eQ 93 (v0 := .pointer (some (ea AA2 (k * 2)))) (v := .pointer (some (ea AA2 (k * 2)))) hF (by kernel_rfl) (fun _ => by kernel_rfl) rfl fun a hF => ?_
          refine eQ2 94 (v := .int .i64 (pr lt k).1) hF (by kernel_rfl) (yld_ro1 (A := AA2) (j := k * 2) hF rfl (by kernel_rfl) (by kernel_rfl) (roO 4 rfl) (by kernel_rfl) (pr_fst (k := k) (by omega) (by omega))) fun a hF => ?_
          refine eQ 95 (v0 := .bool (decide (nt og k = (pr lt k).1))) (v := .bool true) hF (by kernel_rfl) (fun _ => by kernel_rfl) (bT hz8) fun a hF => ?_
          refine eQ 96 (v0 := .bool true) (v := .bool true) hF (by kernel_rfl) (fun _ => by kernel_rfl) rfl fun a hF => ?_
          refine qSkip hF (by kernel_rfl) rfl (by decide) fun a hF => ?_
          refine qSkip hF (by kernel_rfl) rfl (by decide) fun a hF => ?_
          refine qSkip hF (by kernel_rfl) rfl (by decide) fun a hF => ?_
          refine qSkip hF (by kernel_rfl) rfl (by decide) fun a hF => ?_
          refine qSkip hF (by kernel_rfl) rfl (by decide) fun a hF => ?_
          refine qSkip hF (by kernel_rfl) rfl (by decide) fun a hF => ?_
          refine qSkip hF (by kernel_rfl) rfl (by decide) fun a hF => ?_
          refine qSkip hF (by kernel_rfl) rfl (by decide) fun a hF => ?_
          refine qSkip hF (by kernel_rfl) rfl (by decide) fun a hF => ?_
          refine qSkip hF (by kernel_rfl) rfl (by decide) fun a hF => ?_
          refine qSkip hF (by kernel_rfl) rfl (by decide) fun a hF => ?_
          refine qSkip hF (by kernel_rfl) rfl (by decide) fun a hF => ?_
          refine qSkip hF (by kernel_rfl) rfl (by decide) fun a hF => ?_
          refine qSkip hF (by kernel_rfl) rfl (by decide) fun a hF => ?_
          refine eQ 111 (v0 := .bool true) (v := .bool true) hF (by kernel_rfl) (fun _ => by kernel_rfl) rfl fun a hF => ?_
          refine wpQuiet_nil ?_
          intro w hM
          refine hK24 _ _ ?_
          refine cT hF (by kernel_rfl) (by kernel_rfl) ?_
          refine wp_exit ?_
          refine hK14 _ _ ?_
          refine wp_region_lit ?_
          refine sB 1 [(41, .int .i64 (k : Int))] hF (by kernel_rfl) fun a hF => ?_
          refine wl (eP 42 (v0 := .int .i64 (IntKind.i64.wrap ((k : Int) + 1))) (v := .int .i64 ((k : Int) + 1)) hF (by kernel_rfl) (fun _ => by kernel_rfl) (wi (by omega)) fun a hF => ?_)
          refine sB 1 [(8, .int .i64 ((k : Int) + 1))] hF (by kernel_rfl) fun a hF => ?_
          refine wpList_nil ?_
          refine hK11 _ _ ⟨(k + 1, m1), ⟨((((((Fr.nil hF).c hF (i := 7) rfl rfl).c hF (i := 5) rfl rfl).c hF (i := 4) rfl rfl).c hF (i := 3) rfl rfl).c hF (i := 8) rfl (vi (show ((k : Int) + 1 : Int) = ((k + 1) : Int) from by omega))), (hM.sub ((((((Sub.nil.c (k := 7) rfl rfl).c (k := 6) rfl rfl).c (k := 5) rfl rfl).c (k := 4) rfl rfl).c (k := 2) rfl rfl).c (k := 1) rfl rfl)), (show ((k + 1) : Int) ≤ (lt.length : Int) from by omega), (show m1 = shZ fb fr lt (k + 1) from by exact hm1o), (show (m1.length : Int) = (lt.length : Int) from by omega)⟩, (show lt.length - (k + 1) < lt.length - k from by omega)⟩
        · skip
          refine rQ hM (by kernel_rfl) (by kernel_rfl) ?_
          refine eQ 86 (v0 := .slice AA4 lt.length cc4) (v := .slice AA4 lt.length cc4) hF (by kernel_rfl) (fun _ => by kernel_rfl) rfl fun a hF => ?_
          refine eQ 87 (v0 := .int .i64 (k : Int)) (v := .int .i64 (k : Int)) hF (by kernel_rfl) (fun _ => by kernel_rfl) rfl fun a hF => ?_
          refine eQ2 88 (v := .pointer (some (ea AA4 (k)))) hF (by kernel_rfl) (yld_ix (kd := .i64) (e := 3) (len := lt.length) (cap := cc4) (i := (k : Int)) (size := 1) (A := AA4) hF rfl (by kernel_rfl) (by kernel_rfl) (by kernel_rfl) (by kernel_rfl) (by kernel_rfl) (roO 6 rfl) (by omega) (by omega) (by rw [List.length_map]; omega)) fun a hF => ?_
          refine eQ2 89 (v := .int .i64 (nt og k)) hF (by kernel_rfl) (yld_ro1 (A := AA4) (j := k) hF rfl (by kernel_rfl) (by kernel_rfl) (roO 6 rfl) (by kernel_rfl) (nt_at (by omega))) fun a hF => ?_
          refine eQ 90 (v0 := .slice AA2 lt.length cc2) (v := .slice AA2 lt.length cc2) hF (by kernel_rfl) (fun _ => by kernel_rfl) rfl fun a hF => ?_
          refine eQ 91 (v0 := .int .i64 (k : Int)) (v := .int .i64 (k : Int)) hF (by kernel_rfl) (fun _ => by kernel_rfl) rfl fun a hF => ?_
          refine eQ2 92 (v := .pointer (some (ea AA2 (k * 2)))) hF (by kernel_rfl) (yld_ix (kd := .i64) (e := 31) (len := lt.length) (cap := cc2) (i := (k : Int)) (size := 2) (A := AA2) hF rfl (by kernel_rfl) (by kernel_rfl) (by kernel_rfl) (by kernel_rfl) (by kernel_rfl) (roO 4 rfl) (by omega) (by omega) (by rw [flat2_length]; omega)) fun a hF => ?_
          refine eQ 93 (v0 := .pointer (some (ea AA2 (k * 2)))) (v := .pointer (some (ea AA2 (k * 2)))) hF (by kernel_rfl) (fun _ => by kernel_rfl) rfl fun a hF => ?_
          refine eQ2 94 (v := .int .i64 (pr lt k).1) hF (by kernel_rfl) (yld_ro1 (A := AA2) (j := k * 2) hF rfl (by kernel_rfl) (by kernel_rfl) (roO 4 rfl) (by kernel_rfl) (pr_fst (k := k) (by omega) (by omega))) fun a hF => ?_
          refine eQ 95 (v0 := .bool (decide (nt og k = (pr lt k).1))) (v := .bool false) hF (by kernel_rfl) (fun _ => by kernel_rfl) (bF hz8) fun a hF => ?_
          refine eQ 96 (v0 := .bool false) (v := .bool false) hF (by kernel_rfl) (fun _ => by kernel_rfl) rfl fun a hF => ?_
          refine eQ 97 (v0 := .int .i64 (k : Int)) (v := .int .i64 (k : Int)) hF (by kernel_rfl) (fun _ => by kernel_rfl) rfl fun a hF => ?_
          refine eQ 98 (v0 := .bool (decide (0 < (k : Int)))) (v := .bool false) hF (by kernel_rfl) (fun _ => by kernel_rfl) (bF hz5) fun a hF => ?_
          refine eQ 99 (v0 := .bool false) (v := .bool false) hF (by kernel_rfl) (fun _ => by kernel_rfl) rfl fun a hF => ?_
          refine qSkip hF (by kernel_rfl) rfl (by decide) fun a hF => ?_
          refine qSkip hF (by kernel_rfl) rfl (by decide) fun a hF => ?_
          refine qSkip hF (by kernel_rfl) rfl (by decide) fun a hF => ?_
          refine qSkip hF (by kernel_rfl) rfl (by decide) fun a hF => ?_
          refine qSkip hF (by kernel_rfl) rfl (by decide) fun a hF => ?_
          refine qSkip hF (by kernel_rfl) rfl (by decide) fun a hF => ?_
          refine qSkip hF (by kernel_rfl) rfl (by decide) fun a hF => ?_
          refine qSkip hF (by kernel_rfl) rfl (by decide) fun a hF => ?_
          refine qSkip hF (by kernel_rfl) rfl (by decide) fun a hF => ?_
          refine qSkip hF (by kernel_rfl) rfl (by decide) fun a hF => ?_
          refine eQ 110 (v0 := .bool false) (v := .bool false) hF (by kernel_rfl) (fun _ => by kernel_rfl) rfl fun a hF => ?_
          refine eQ 111 (v0 := .bool false) (v := .bool false) hF (by kernel_rfl) (fun _ => by kernel_rfl) rfl fun a hF => ?_
          refine wpQuiet_nil ?_
          intro w hM
          refine hK24 _ _ ?_
          refine cF hF (by kernel_rfl) (by kernel_rfl) ?_
          refine wp_skip ?_
          refine hK23 _ _ ?_
          refine wp_seq_k fun K25 hK25 => ?_
          refine wp_region_lit ?_
          refine wl (eN 112 9 (t := 31) (fun b => .slice (some ⟨b, 0, none⟩) 0 0) #[] hF hM (by kernel_rfl) (fun _ => by kernel_rfl) fun bb9 a w hF hM => ?_)
          refine sB 2 [(113, .slice AA6 lt.length cc6), (114, .int .i64 (k : Int))] hF (by kernel_rfl) fun a hF => ?_
          refine wl (eP 115 (v0 := .int .i64 (IntKind.i64.wrap ((k : Int) + 1))) (v := .int .i64 ((k : Int) + 1)) hF (by kernel_rfl) (fun _ => by kernel_rfl) (wi (by omega)) fun a hF => ?_)
          refine wl (eM 116 (v := .slice AA6 lsl.length cc6) hF hM (by kernel_rfl) (yld_slice0 (e := 31) (len := lt.length) (cap := cc6) (m := lsl.length) (A := AA6) (i := (k : Int) + 1) hF rfl (by kernel_rfl) (by kernel_rfl) (by kernel_rfl) (by kernel_rfl) (by kernel_rfl) (by omega) (by omega)) fun a w hF hM => ?_)
          refine wl (sAppR0 117 9 (e := 31) (size := 2) (bytes := 16) (z := .agg #[.int .i64 0, .int .i64 0]) (m := lsl.length) (c := cc6) (news := (flat2 lsl)) (flat2 lsl) hF hM (by kernel_rfl) rfl (by kernel_rfl) (by kernel_rfl) (by kernel_rfl) rfl rfl rfl (by first | exact flat2_length _ | (rw [flat2_length]; omega)) (fun w hM => ro_sub_own (hM.ok 7 _ rfl) e_lsl) (flat2_one _) (by omega) (by decide) rfl (fun h => by have := own_nil hM (k := 7) rfl h; first | omega | (simp; omega)) fun AA10 cc10 a w hF hM => ?_)
          refine sB 1 [(9, .slice AA10 lsl.length cc10)] hF (by kernel_rfl) fun a hF => ?_
          refine wpList_nil ?_
          refine hK25 _ _ ?_
          refine wp_seq_k fun K26 hK26 => ?_
          have hlk := hpl k (by omega)
          have hlk1 : (pr lsl k).1 = nt og k := by rw [hlk, hnk]
          refine wp_region_lit ?_
          refine sB 2 [(118, .slice AA10 lsl.length cc10), (119, .int .i64 (k : Int))] hF (by kernel_rfl) fun a hF => ?_
          refine wl (eM 120 (v := .pointer (some (ea AA10 (k * 2)))) hF hM (by kernel_rfl) (yld_ix (kd := .i64) (e := 31) (len := lsl.length) (cap := cc10) (i := (k : Int)) (size := 2) (A := AA10) hF rfl (by kernel_rfl) (by kernel_rfl) (by kernel_rfl) (by kernel_rfl) (by kernel_rfl) (roO 9 rfl) (by omega) (by omega) (by rw [flat2_length]; omega)) fun a w hF hM => ?_)
          refine sB 1 [(121, .pointer (some (ea AA10 (k * 2))))] hF (by kernel_rfl) fun a hF => ?_
          refine wl (eM 122 (v := .int .i64 (pr lsl k).1) hF hM (by kernel_rfl) (yld_ro1 (A := AA10) (j := k * 2) hF rfl (by kernel_rfl) (by kernel_rfl) (roO 9 rfl) (by kernel_rfl) (pr_fst (k := k) (by omega) (by omega))) fun a w hF hM => ?_)
          refine wl (eP 123 (v0 := .int .i64 (IntKind.i64.wrap ((pr lsl k).1 - 1))) (v := .int .i64 ((pr lsl k).1 - 1)) hF (by kernel_rfl) (fun _ => by kernel_rfl) (wi (by omega)) fun a hF => ?_)
          refine wl (eM 124 (v := .pointer (some (ea AA10 (k * 2)))) hF hM (by kernel_rfl) (yld_ix (kd := .i64) (e := 31) (len := lsl.length) (cap := cc10) (i := (k : Int)) (size := 2) (A := AA10) hF rfl (by kernel_rfl) (by kernel_rfl) (by kernel_rfl) (by kernel_rfl) (by kernel_rfl) (roO 9 rfl) (by omega) (by omega) (by rw [flat2_length]; omega)) fun a w hF hM => ?_)
          refine sB 1 [(125, .pointer (some (ea AA10 (k * 2))))] hF (by kernel_rfl) fun a hF => ?_
          refine wl (sStoreO 9 (j := k * 2) (A := AA10) (flat2 ((lsl).set k ((pr lsl k).1 - 1, (pr lsl k).2))) hF hM (by kernel_rfl) rfl rfl (by kernel_rfl) (by kernel_rfl) rfl (by kernel_rfl) rfl rfl (by rw [flat2_length]; omega) (flat2_set1 (k := k) _ (by omega) (by omega)) fun w hM => ?_)
          refine wpList_nil ?_
          refine hK26 _ _ ?_
          refine wp_seq_k fun K27 hK27 => ?_
          obtain ⟨ea, hea⟩ : ∃ z : List (Int × Int), (lsl).set k ((pr lsl k).1 - 1, (pr lsl k).2) = z := ⟨_, rfl⟩
          rw [hea] at hM
          have heal : ea.length = lsl.length := by rw [← hea, List.length_set]
          have hce : cfB fb fr ea = false := hok.early (n := k) (by omega) (by omega) (fun i hi => by rw [← hea, pr_set (by omega), if_neg (by omega)]; exact hpl i (by omega)) (by rw [← hea, pr_set (by omega), if_pos rfl, hlk]) (by rw [← hnk]; omega) (fun h0 => by rw [← hnk, ← hoa (k - 1) (by omega)]; omega)
          refine wp_region_lit ?_
          refine wl (eL 126 5 0 (v := .agg #[.int .i64 fb, .int .i64 fr]) hF hM (by kernel_rfl) rfl rfl (by kernel_rfl) (by kernel_rfl) fun a w hF hM => ?_)
          refine sB 1 [(127, .slice AA10 lsl.length cc10)] hF (by kernel_rfl) fun a hF => ?_
          refine wl (eM 128 (v := .bool false) hF hM (by kernel_rfl) (Yld.to (yld_call (f := 25) (args := #[.agg #[.int .i64 fb, .int .i64 fr], .slice AA10 lsl.length cc10]) hF (by kernel_rfl) (fun _ => by kernel_rfl) (fun w hM => (by rw [show lsl.length = ea.length from by first | omega | (simp; done) | (simp; omega)]; exact conforms34_w fb fr AA10 ea _ w (ro_of_own (hM.ok 9 _ rfl))))) (congrArg Value.bool hce)) fun a w hF hM => ?_)
          refine wpList_nil ?_
          refine hK27 _ _ ?_
          refine cF hF (by kernel_rfl) (by kernel_rfl) ?_
          refine wp_skip ?_
          refine hK14 _ _ ?_
          refine wp_region_lit ?_
          refine sB 1 [(41, .int .i64 (k : Int))] hF (by kernel_rfl) fun a hF => ?_
          refine wl (eP 42 (v0 := .int .i64 (IntKind.i64.wrap ((k : Int) + 1))) (v := .int .i64 ((k : Int) + 1)) hF (by kernel_rfl) (fun _ => by kernel_rfl) (wi (by omega)) fun a hF => ?_)
          refine sB 1 [(8, .int .i64 ((k : Int) + 1))] hF (by kernel_rfl) fun a hF => ?_
          refine wpList_nil ?_
          refine hK11 _ _ ⟨(k + 1, m1), ⟨((((((Fr.nil hF).c hF (i := 7) rfl rfl).c hF (i := 5) rfl rfl).c hF (i := 4) rfl rfl).c hF (i := 3) rfl rfl).c hF (i := 8) rfl (vi (show ((k : Int) + 1 : Int) = ((k + 1) : Int) from by omega))), (hM.sub ((((((Sub.nil.c (k := 7) rfl rfl).c (k := 6) rfl rfl).c (k := 5) rfl rfl).c (k := 4) rfl rfl).c (k := 2) rfl rfl).c (k := 1) rfl rfl)), (show ((k + 1) : Int) ≤ (lt.length : Int) from by omega), (show m1 = shZ fb fr lt (k + 1) from by exact hm1o), (show (m1.length : Int) = (lt.length : Int) from by omega)⟩, (show lt.length - (k + 1) < lt.length - k from by omega)⟩
    · skip
      replace hF := hF.c hF (i := 40) (v := .bool false) rfl (bF hz4)
      refine cF hF (by kernel_rfl) (by kernel_rfl) ?_
      refine wp_exit ?_
      refine hK9 _ _ ?_
      refine wp_seq_k fun K28 hK28 => ?_
      have hk : k = lt.length := by omega
      have hag := hok.again (m := mm) (by omega) (fun i hi => by rw [hmm, hk, shZ_pr (Nat.le_refl _) i hi, if_pos hi])
      rw [hog] at hag
      refine wp_region_lit ?_
      refine wl (eL 130 5 0 (v := .agg #[.int .i64 fb, .int .i64 fr]) hF hM (by kernel_rfl) rfl rfl (by kernel_rfl) (by kernel_rfl) fun a w hF hM => ?_)
      refine sB 1 [(131, .slice AA6 lt.length cc6)] hF (by kernel_rfl) fun a hF => ?_
      refine wl (sOwn 10 (f := 19) (args := #[.agg #[.int .i64 fb, .int .i64 fr], .slice AA6 lt.length cc6]) (mk := fun v => .tuple #[v, .int .i64 0]) (e := 3) (size := 1) (m := lt.length) (xs := (og.map (Value.int .i64))) hF hM (by kernel_rfl) rfl (by decide) (by kernel_rfl) (fun _ => by kernel_rfl) (by rw [show lt.length = mm.length from by omega]; exact shRun_lit (by rw [show mm.length = lt.length from by omega]; exact hag.2) (shRun_ok fb fr AA6 mm _ w (ro_of_own (hM.ok 7 _ rfl)) hag.1)) fun AA11 cc11 a w hF hM => ?_)
      refine sB 5 [(129, .tuple #[.slice AA11 lt.length cc11, .int .i64 0]), (133, .slice AA11 lt.length cc11), (134, .int .i64 0), (10, .slice AA11 lt.length cc11), (11, .int .i64 0)] hF (by kernel_rfl) fun a hF => ?_
      refine wpList_nil ?_
      refine hK28 _ _ ?_
      refine wp_seq_k fun K29 hK29 => ?_
      refine wp_region_lit ?_
      refine sB 1 [(135, .int .i64 0)] hF (by kernel_rfl) fun a hF => ?_
      refine wl (eP 136 (v0 := .bool (decide (0 = 0))) (v := .bool true) hF (by kernel_rfl) (fun _ => by kernel_rfl) (bT (by omega)) fun a hF => ?_)
      refine sB 3 [(137, .bool true), (138, .slice AA11 lt.length cc11), (139, .slice AA4 lt.length cc4)] hF (by kernel_rfl) fun a hF => ?_
      refine wl (eM 140 (v := .bool true) hF hM (by kernel_rfl) (yld_call (f := 21) (args := #[.slice AA11 lt.length cc11, .slice AA4 lt.length cc4]) hF (by kernel_rfl) (fun _ => by kernel_rfl) (fun w hM => (by rw [show lt.length = og.length from by first | omega | (simp; done)]; exact same_yes AA11 og cc11 AA4 og cc4 w (ro_of_own (hM.ok 10 _ rfl)) (ro_of_own (hM.ok 6 _ rfl)) (by omega) rfl))) fun a w hF hM => ?_)
      refine sB 2 [(141, .bool true), (2, .bool true)] hF (by kernel_rfl) fun a hF => ?_
      refine wpList_nil ?_
      refine hK29 _ _ ?_
      refine wp_ret ?_
      refine hR0 _ _ ?_
      refine ret_of hF hM (.tmp rfl (.nil)) ?_
      exact ⟨rfl, hM.bel⟩

end Go.Proofs.Ytaekcgapbkmepaa
