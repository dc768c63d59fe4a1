/-
  The walk of CurveOutput.
-/
import Derived.Test.YtoighcbbaacnaaaCurveJ
import Derived.Test.YtoighcbbaacnaaaCfTrW
namespace Go.Proofs.Ytoighcbbaacnaaa
open Go.RowKit
set_option linter.unusedVariables false
set_option linter.unusedSimpArgs false

def All32 (l : List Int) : Prop := ∀ x ∈ l, 0 ≤ x ∧ x ≤ 4294967295
theorem all32_nt {l : List Int} (h : All32 l) (k : Nat) : 0 ≤ nt l k ∧ nt l k ≤ 4294967295 := by
  unfold nt
  rcases Nat.lt_or_ge k l.length with hk | hk
  · rw [List.getD_eq_getElem?_getD, List.getElem?_eq_getElem hk]
    exact h _ (List.getElem_mem hk)
  · rw [List.getD_eq_getElem?_getD, List.getElem?_eq_none hk]
    simp
set_option maxRecDepth 100000 in
set_option maxHeartbeats 8000000 in
theorem curveOutput_walk (bu ra : Int) (Ga : Option Addr) (gaps : List Int) (cg : Nat) (Sa : Option Addr) (sizes : List Int) (cs : Nat) (mo la : Int) (Wa : Option Addr) (wq : List Int) (cw : Nat) (w0 : World) (hGa : Ro w0 Ga (gaps.map (Value.int .u16))) (hSa : Ro w0 Sa (sizes.map (Value.int .u16))) (hg : All16 gaps) (hs : All16 sizes) (hmg : gaps.length ≤ 9223372036854775807) (hms : sizes.length ≤ 9223372036854775807) (h : 0 ≤ bu ∧ bu < 4294967296 ∧ 0 ≤ ra ∧ ra < 4294967296 ∧ 0 ≤ mo ∧ mo < 4294967296 ∧ 0 ≤ la ∧ la ≤ 65535) (hW : Ro w0 Wa (wq.map (Value.int .u32))) (hwl : All32 wq) (hwm : wq.length ≤ 9223372036854775807) :
    Calls Try.prog 12 #[.agg #[.int .u32 bu, .int .u32 ra, .slice Ga gaps.length cg, .slice Sa sizes.length cs], .int .u32 mo, .int .u16 la, .slice Wa wq.length cw] w0 (Ret w0 (.bool true)) := by
  obtain ⟨xb, hxb⟩ : ∃ z : Int, 1 + bu % 1048576 = z := ⟨_, rfl⟩
  obtain ⟨xq, hxq⟩ : ∃ z : Int, 1 + ra % 2097152 = z := ⟨_, rfl⟩
  have hbk : bkE xb xq = 0 := by unfold bkE; rw [if_pos]; omega
  obtain ⟨sr, hsr⟩ : ∃ z : Int, min 2097152 (xq + mo % 262144) = z := ⟨_, rfl⟩
  have v1 : svE sr la = 0 := svE_yes (by omega)
  have k1 := cs_0 (b := xb) (q := xq) hbk v1 (by omega)
  obtain ⟨lk, hlk⟩ : ∃ z : List (Int × Int), cfDr bu ra gaps sizes = z := ⟨_, rfl⟩
  have hcf : cfB xb xq lk = true := by rw [← hlk, ← hxb, ← hxq]; exact cfTr_cf (by unfold bkE; omega) (dr_trE hg hs)
  have htr : trE lk = 0 := ckE_tr (cf_iff.1 hcf).1
  have hle : lk.length ≤ 30 := by rw [← hlk]; exact Nat.le_trans (cfTr_le (by unfold bkE; omega) (dr_trE hg hs)) (dr_le _ _)
  have hpr : ∀ k, k < lk.length → 0 ≤ (pr lk k).1 ∧ (pr lk k).1 ≤ 1966050 ∧ 1 ≤ (pr lk k).2 ∧ (pr lk k).2 ≤ 65536 := by rw [← hlk]; exact fun k hk => cfTr_pr (p := fun x => 0 ≤ x.1 ∧ x.1 ≤ 1966050 ∧ 1 ≤ x.2 ∧ x.2 ≤ 65536) (by unfold bkE; omega) (dr_trE hg hs) (fun j hj => dr_pr hg hs hj) hk
  have b1 := cq_in (n := xb * 1048576) (d := sr) (B := 1099511627776) (by omega) (by omega) (by omega)
  obtain ⟨on_, hoN⟩ : ∃ z : Int, ouN xb xq sr la = z := ⟨_, rfl⟩
  have hoN2 : xb + cq (xq * (la + cq (xb * 1048576) sr)) 1048576 = on_ := hoN
  obtain ⟨c1, hc1⟩ : ∃ z : Int, cq (xb * 1048576) sr = z := ⟨_, rfl⟩
  rw [hc1] at b1 hoN2
  have hou : bkE on_ xq = 0 → bkE (ouN xb xq sr la) xq = 0 := fun q => by rw [hoN]; exact q
  have hoq : ¬ bkE on_ xq = 0 → ¬ bkE (ouN xb xq sr la) xq = 0 := fun q => by rw [hoN]; exact q
  have hout : bkE on_ xq = 0 → cfB on_ xq (oL lk wq (la + c1) lk.length) = true ∧ ckE on_ xq (oL lk wq (la + c1) lk.length) = 0 := fun q => by rw [← hoN2] at q ⊢; exact out_cf hcf (by omega) (fun k hk => (hpr k hk).2.1) (by omega) (fun k => all32_nt hwl k) q
  refine enterK 128 Try.func12 rfl rfl rfl ?_
  intro a hF Q0 hR0 hN0
  have hM := Mem.start w0
  replace hM := hM.addOld 1 hGa (Nat.le_refl _)
  replace hM := hM.addOld 2 hSa (Nat.le_refl _)
  replace hM := hM.addOld 3 hW (Nat.le_refl _)
  refine wp_seq_k fun K1 hK1 => ?_
  refine wp_region_lit ?_
  refine wl (eN 4 4 (t := 42) (fun b => .pointer (some ⟨b, 0, none⟩)) #[.int .u32 bu, .int .u32 ra, .slice Ga gaps.length cg, .slice Sa sizes.length cs] hF hM (by kernel_rfl) (fun _ => by kernel_rfl) fun bb1 a w hF hM => ?_)
  refine sB 1 [(8, .bool false)] hF (by kernel_rfl) fun a hF => ?_
  refine wpList_nil ?_
  refine hK1 _ _ ?_
  refine wp_seq_k fun K2 hK2 => ?_
  refine wp_seq_k fun K3 hK3 => ?_
  refine wp_region_lit ?_
  refine wl (eM 21 (v := .bool true) hF hM (by kernel_rfl) (yld_call (f := 18) (args := #[]) hF (by kernel_rfl) (fun _ => by kernel_rfl) (fun w hM => works4_w w)) fun a w hF hM => ?_)
  refine sB 1 [(22, .bool false)] hF (by kernel_rfl) fun a hF => ?_
  refine wpList_nil ?_
  refine hK3 _ _ ?_
  refine cF hF (by kernel_rfl) (by kernel_rfl) ?_
  refine wp_skip ?_
  refine hK2 _ _ ?_
  refine wp_seq_k fun K4 hK4 => ?_
  refine wp_region_lit ?_
  refine wl (eL 23 4 0 (v := .agg #[.int .u32 bu, .int .u32 ra, .slice Ga gaps.length cg, .slice Sa sizes.length cs]) hF hM (by kernel_rfl) rfl rfl (by kernel_rfl) (by kernel_rfl) fun a w hF hM => ?_)
  refine wl (eM 24 (v := .agg #[.int .i64 xb, .int .i64 xq]) hF hM (by kernel_rfl) (yld_call (f := 19) (args := #[.agg #[.int .u32 bu, .int .u32 ra, .slice Ga gaps.length cg, .slice Sa sizes.length cs]]) hF (by kernel_rfl) (fun _ => by kernel_rfl) (fun w hM => agg_to hxb hxq (draftBucket_w bu ra (.slice Ga gaps.length cg) (.slice Sa sizes.length cs) w (by omega)))) fun a w hF hM => ?_)
  refine wl (eN 9 5 (t := 39) (fun b => .pointer (some ⟨b, 0, none⟩)) #[.int .i64 0, .int .i64 0] hF hM (by kernel_rfl) (fun _ => by kernel_rfl) fun bb2 a w hF hM => ?_)
  refine wl (sStore (i := 5) (off := 0) (cs' := #[.int .i64 xb, .int .i64 xq]) hF hM (by kernel_rfl) rfl rfl (by kernel_rfl) (by kernel_rfl) rfl (by kernel_rfl) fun w hM => ?_)
  refine wpList_nil ?_
  refine hK4 _ _ ?_
  refine wp_seq_k fun K5 hK5 => ?_
  refine wp_region_lit ?_
  refine sB 1 [(25, .pointer (some ⟨bb2, 1, none⟩))] hF (by kernel_rfl) fun a hF => ?_
  refine wl (eL 26 5 1 (v := .int .i64 xq) hF hM (by kernel_rfl) rfl rfl (by kernel_rfl) (by kernel_rfl) fun a w hF hM => ?_)
  refine sB 1 [(27, .int .u32 mo)] hF (by kernel_rfl) fun a hF => ?_
  refine wl (eM 28 (v := .int .u32 (mo % 262144)) hF hM (by kernel_rfl) (yld_rem mo 262144 hF rfl (by kernel_rfl) (by kernel_rfl) (by kernel_rfl) (by decide) (Int.tmod_eq_emod_of_nonneg (by omega))) fun a w hF hM => ?_)
  refine wl (eP 29 (v0 := .int .i64 (IntKind.i64.wrap (mo % 262144))) (v := .int .i64 (mo % 262144)) hF (by kernel_rfl) (fun _ => by kernel_rfl) (vi (IntWalk.i64_in _ (by omega))) fun a hF => ?_)
  refine wl (eP 30 (v0 := .int .i64 (IntKind.i64.wrap (xq + mo % 262144))) (v := .int .i64 (xq + mo % 262144)) hF (by kernel_rfl) (fun _ => by kernel_rfl) (wi (by omega)) fun a hF => ?_)
  refine wl (eP 31 (v0 := .int .i64 (if xq + mo % 262144 < 2097152 then xq + mo % 262144 else 2097152)) (v := .int .i64 sr) hF (by kernel_rfl) (fun _ => by kernel_rfl) (vi (by rw [← hsr]; exact (min_if _ _))) fun a hF => ?_)
  refine sB 1 [(32, .int .u16 la)] hF (by kernel_rfl) fun a hF => ?_
  refine wl (eP 33 (v0 := .int .i64 (IntKind.i64.wrap la)) (v := .int .i64 la) hF (by kernel_rfl) (fun _ => by kernel_rfl) (vi (IntWalk.i64_in _ (by omega))) fun a hF => ?_)
  refine sB 1 [(34, .agg #[.int .i64 sr, .int .i64 la])] hF (by kernel_rfl) fun a hF => ?_
  refine wl (eN 10 6 (t := 23) (fun b => .pointer (some ⟨b, 0, none⟩)) #[.int .i64 0, .int .i64 0] hF hM (by kernel_rfl) (fun _ => by kernel_rfl) fun bb3 a w hF hM => ?_)
  refine wl (sStore (i := 6) (off := 0) (cs' := #[.int .i64 sr, .int .i64 la]) hF hM (by kernel_rfl) rfl rfl (by kernel_rfl) (by kernel_rfl) rfl (by kernel_rfl) fun w hM => ?_)
  refine wpList_nil ?_
  refine hK5 _ _ ?_
  refine wp_seq_k fun K6 hK6 => ?_
  refine wp_region_lit ?_
  refine wl (eL 36 5 0 (v := .agg #[.int .i64 xb, .int .i64 xq]) hF hM (by kernel_rfl) rfl rfl (by kernel_rfl) (by kernel_rfl) fun a w hF hM => ?_)
  refine wl (eN 37 7 (t := 39) (fun b => .slice (some ⟨b, 0, none⟩) 1 1) #[.int .i64 xb, .int .i64 xq] hF hM (by kernel_rfl) (fun _ => by kernel_rfl) fun bb4 a w hF hM => ?_)
  refine wl (eL 38 6 0 (v := .agg #[.int .i64 sr, .int .i64 la]) hF hM (by kernel_rfl) rfl rfl (by kernel_rfl) (by kernel_rfl) fun a w hF hM => ?_)
  refine wl (eM 39 (v := .tuple #[.int .i64 (la + c1), .int .i64 0]) hF hM (by kernel_rfl) (yld_call (f := 20) (args := #[.slice (some ⟨bb4, 0, none⟩) 1 1, .agg #[.int .i64 sr, .int .i64 la]]) hF (by kernel_rfl) (fun _ => by kernel_rfl) (fun w hM => dl_to ⟨(dl_one k1).1, (dl_one k1).2.trans (by rw [hc1])⟩ (delay_w sr la (some ⟨bb4, 0, none⟩) [(xb, xq)] _ w (hM.roRow (k := 7) rfl)))) fun a w hF hM => ?_)
  refine sB 5 [(35, .tuple #[.int .i64 (la + c1), .int .i64 0]), (40, .int .i64 (la + c1)), (41, .int .i64 0), (11, .int .i64 (la + c1)), (12, .int .i64 0)] hF (by kernel_rfl) fun a hF => ?_
  refine wpList_nil ?_
  refine hK6 _ _ ?_
  refine wp_seq_k fun K7 hK7 => ?_
  by_cases hz1 : bkE on_ xq = 0
  · skip
    have hz2 := bkE_ok hz1
    refine wp_region_lit ?_
    refine wl (eL 43 5 0 (v := .agg #[.int .i64 xb, .int .i64 xq]) hF hM (by kernel_rfl) rfl rfl (by kernel_rfl) (by kernel_rfl) fun a w hF hM => ?_)
    refine wl (eL 44 6 0 (v := .agg #[.int .i64 sr, .int .i64 la]) hF hM (by kernel_rfl) rfl rfl (by kernel_rfl) (by kernel_rfl) fun a w hF hM => ?_)
    refine wl (eM 45 (v := .tuple #[.agg #[.int .i64 on_, .int .i64 xq], .int .i64 0]) hF hM (by kernel_rfl) (yld_call (f := 24) (args := #[.agg #[.int .i64 xb, .int .i64 xq], .agg #[.int .i64 sr, .int .i64 la]]) hF (by kernel_rfl) (fun _ => by kernel_rfl) (fun w hM => jn_to ⟨(ou_0 k1 (hou hz1)).1, (ou_0 k1 (hou hz1)).2.1.trans hoN, (ou_0 k1 (hou hz1)).2.2⟩ (output_w xb xq sr la w))) fun a w hF hM => ?_)
    refine sB 3 [(42, .tuple #[.agg #[.int .i64 on_, .int .i64 xq], .int .i64 0]), (46, .agg #[.int .i64 on_, .int .i64 xq]), (47, .int .i64 0)] hF (by kernel_rfl) fun a hF => ?_
    refine wl (eN 13 8 (t := 39) (fun b => .pointer (some ⟨b, 0, none⟩)) #[.int .i64 0, .int .i64 0] hF hM (by kernel_rfl) (fun _ => by kernel_rfl) fun bb5 a w hF hM => ?_)
    refine wl (sStore (i := 8) (off := 0) (cs' := #[.int .i64 on_, .int .i64 xq]) hF hM (by kernel_rfl) rfl rfl (by kernel_rfl) (by kernel_rfl) rfl (by kernel_rfl) fun w hM => ?_)
    refine sB 1 [(14, .int .i64 0)] hF (by kernel_rfl) fun a hF => ?_
    refine wpList_nil ?_
    refine hK7 _ _ ?_
    refine wp_seq_k fun K8 hK8 => ?_
    refine wp_seq_k fun K9 hK9 => ?_
    refine wp_region_lit ?_
    refine sB 1 [(48, .int .i64 0)] hF (by kernel_rfl) fun a hF => ?_
    refine wl (eP 49 (v0 := .bool (!decide (0 = 0))) (v := .bool false) hF (by kernel_rfl) (fun _ => by kernel_rfl) (nT (by omega)) fun a hF => ?_)
    refine sB 2 [(50, .bool false), (51, .int .i64 0)] hF (by kernel_rfl) fun a hF => ?_
    refine wl (eP 52 (v0 := .bool (!decide (0 = 0))) (v := .bool false) hF (by kernel_rfl) (fun _ => by kernel_rfl) (nT (by omega)) fun a hF => ?_)
    refine sB 1 [(53, .bool false)] hF (by kernel_rfl) fun a hF => ?_
    refine wpList_nil ?_
    refine hK9 _ _ ?_
    refine cF hF (by kernel_rfl) (by kernel_rfl) ?_
    refine wp_skip ?_
    refine hK8 _ _ ?_
    refine wp_seq_k fun K10 hK10 => ?_
    refine wp_region_lit ?_
    refine wl (eN 60 9 (t := 64) (fun b => .slice (some ⟨b, 0, none⟩) 0 0) #[] hF hM (by kernel_rfl) (fun _ => by kernel_rfl) fun bb6 a w hF hM => ?_)
    refine wl (eL 61 4 0 (v := .agg #[.int .u32 bu, .int .u32 ra, .slice Ga gaps.length cg, .slice Sa sizes.length cs]) hF hM (by kernel_rfl) rfl rfl (by kernel_rfl) (by kernel_rfl) fun a w hF hM => ?_)
    refine wl (sOwn 10 (f := 30) (args := #[.agg #[.int .u32 bu, .int .u32 ra, .slice Ga gaps.length cg, .slice Sa sizes.length cs]]) (mk := fun v => v) (e := 64) (size := 2) (m := lk.length) (xs := (flat2 lk)) hF hM (by kernel_rfl) rfl (by decide) (by kernel_rfl) (fun _ => by kernel_rfl) (by rw [← hlk]; exact conforming_w bu ra Ga gaps cg Sa sizes cs w (hM.ok 1 _ rfl) (hM.ok 2 _ rfl) hg hs (by omega) (by omega) (by omega)) fun AA7 cc7 a w hF hM => ?_)
    refine wl (sAppR0 63 9 (e := 64) (size := 2) (bytes := 16) (z := .agg #[.int .i64 0, .int .i64 0]) (m := lk.length) (c := cc7) (news := (flat2 lk)) (flat2 lk) hF hM (by kernel_rfl) rfl (by kernel_rfl) (by kernel_rfl) (by kernel_rfl) rfl rfl rfl (by first | exact flat2_length _ | (rw [flat2_length]; omega)) (roO 10 rfl) (flat2_one _) (by omega) (by decide) rfl (own_nil hM (k := 10) rfl) fun AA8 cc8 a w hF hM => ?_)
    refine sB 1 [(15, .slice AA8 lk.length cc8)] hF (by kernel_rfl) fun a hF => ?_
    refine wpList_nil ?_
    refine hK10 _ _ ?_
    refine wp_seq_k fun K11 hK11 => ?_
    refine wp_region_lit ?_
    refine sB 1 [(16, .int .i64 0)] hF (by kernel_rfl) fun a hF => ?_
    refine wpList_nil ?_
    refine hK11 _ _ ?_
    refine wp_seq_k fun K12 hK12 => ?_
    refine wp_seq_k fun K13 hK13 => ?_
    have hoz : oAt lk wq (la + c1) 0 = 0 := rfl
    refine wp_region_lit ?_
    refine sB 1 [(17, .int .i64 0)] hF (by kernel_rfl) fun a hF => ?_
    refine wpList_nil ?_
    refine hK13 _ _ ?_
    refine wp_block ?_
    refine wp_loop_k (G := Nat × List (Int × Int)) (fun gg a w => Fr 128 [(16, some (.int .i64 (oAt lk wq (la + c1) gg.1))), (17, some (.int .i64 (gg.1 : Int))), (3, some (.slice Wa wq.length cw)), (8, some (.bool false)), (11, some (.int .i64 (la + c1))), (13, some (.pointer (some ⟨bb5, 0, none⟩))), (15, some (.slice AA8 lk.length cc8))] a ∧ Mem w0.heap.size w0 [(1, some (.ro Ga (gaps.map (Value.int .u16)))), (2, some (.ro Sa (sizes.map (Value.int .u16)))), (3, some (.ro Wa (wq.map (Value.int .u32)))), (8, some (.row bb5 39 #[.int .i64 on_, .int .i64 xq])), (9, some (.own (.slice AA8 lk.length cc8) 64 2 lk.length (flat2 gg.2)))] w ∧ ((gg.1 : Int) ≤ (lk.length : Int)) ∧ ((gg.1 : Int) ≤ (wq.length : Int)) ∧ (gg.2 = oL lk wq (la + c1) gg.1) ∧ ((gg.2.length : Int) = (lk.length : Int))) (fun gg => lk.length - gg.1) (0, lk) ?_ ?_
    · refine ⟨((((((((Fr.nil hF).c hF (i := 15) rfl rfl).c hF (i := 13) rfl rfl).c hF (i := 11) rfl rfl).c hF (i := 8) rfl rfl).c hF (i := 3) rfl rfl).c hF (i := 17) rfl (vi (show (0 : Int) = (0 : Int) from by omega))).c hF (i := 16) rfl (vi (show (0 : Int) = oAt lk wq (la + c1) 0 from by omega))), (hM.sub (((((Sub.nil.c (k := 9) rfl rfl).c (k := 8) rfl rfl).c (k := 3) rfl rfl).c (k := 2) rfl rfl).c (k := 1) rfl rfl)), (show (0 : Int) ≤ (lk.length : Int) from by omega), (show (0 : Int) ≤ (wq.length : Int) from by omega), (show lk = oL lk wq (la + c1) 0 from by rfl), (show (lk.length : Int) = (lk.length : Int) from by rfl)⟩
    · intro gg a w hI
      intro K14 hK14
      obtain ⟨k, mm⟩ := gg
      try dsimp only at hI hK14
      obtain ⟨hF, hM, hz3, hz4, hz5, hz6⟩ := hI
      have hmm : mm = oL lk wq (la + c1) k := by assumption
      refine wp_seq_k fun K15 hK15 => ?_
      refine wp_seq_k fun K16 hK16 => ?_
      by_cases hz7 : (k : Int) < (lk.length : Int)
      · skip
        refine wp_region_lit ?_
        refine sB 3 [(64, .int .i64 (k : Int)), (65, .slice AA8 lk.length cc8), (66, .int .i64 (lk.length : Int))] hF (by kernel_rfl) fun a hF => ?_
        refine wl (eP 67 (v0 := .bool (decide ((k : Int) < (lk.length : Int)))) (v := .bool true) hF (by kernel_rfl) (fun _ => by kernel_rfl) (bT hz7) fun a hF => ?_)
        refine sB 6 [(68, .bool true), (69, .int .i64 (k : Int)), (70, .slice Wa wq.length cw), (71, .int .i64 (wq.length : Int)), (72, .bool (decide ((k : Int) < (wq.length : Int)))), (73, .bool (decide ((k : Int) < (wq.length : Int))))] hF (by kernel_rfl) fun a hF => ?_
        refine wpList_nil ?_
        refine hK16 _ _ ?_
        by_cases hz8 : (k : Int) < (wq.length : Int)
        · skip
          replace hF := hF.c hF (i := 72) (v := .bool true) rfl (bT hz8)
          replace hF := hF.c hF (i := 73) (v := .bool true) rfl (bT hz8)
          refine cT hF (by kernel_rfl) (by kernel_rfl) ?_
          refine wp_skip ?_
          refine hK15 _ _ ?_
          refine wp_seq_k fun K17 hK17 => ?_
          refine wp_block ?_
          refine wp_seq_k fun K18 hK18 => ?_
          have hpk : pr mm k = pr lk k := by rw [hmm, oL_pr (by omega) k (by omega), if_neg (by omega)]
          have hcap := oAt_cap (l := lk) (wt := wq) (D := la + c1) (M := 1966050) (C := 4294967295) (fun k hk => (hpr k hk).2.1) (by decide) (by decide) (by omega) (fun k => all32_nt hwl k) k (by omega)
          have hpb := hpr k (by omega)
          rw [← hpk] at hpb
          refine rQ hM (by kernel_rfl) (by kernel_rfl) ?_
          refine eQ 76 (v0 := .int .i64 (oAt lk wq (la + c1) k)) (v := .int .i64 (oAt lk wq (la + c1) k)) hF (by kernel_rfl) (fun _ => by kernel_rfl) rfl fun a hF => ?_
          refine eQ 77 (v0 := .slice AA8 lk.length cc8) (v := .slice AA8 lk.length cc8) hF (by kernel_rfl) (fun _ => by kernel_rfl) rfl fun a hF => ?_
          refine eQ 78 (v0 := .int .i64 (k : Int)) (v := .int .i64 (k : Int)) hF (by kernel_rfl) (fun _ => by kernel_rfl) rfl fun a hF => ?_
          refine eQ2 79 (v := .pointer (some (ea AA8 (k * 2)))) hF (by kernel_rfl) (yld_ix (kd := .i64) (e := 64) (len := lk.length) (cap := cc8) (i := (k : Int)) (size := 2) (A := AA8) hF rfl (by kernel_rfl) (by kernel_rfl) (by kernel_rfl) (by kernel_rfl) (by kernel_rfl) (roO 9 rfl) (by omega) (by omega) (by rw [flat2_length]; omega)) fun a hF => ?_
          refine eQ 80 (v0 := .pointer (some (ea AA8 (k * 2)))) (v := .pointer (some (ea AA8 (k * 2)))) hF (by kernel_rfl) (fun _ => by kernel_rfl) rfl fun a hF => ?_
          refine eQ2 81 (v := .int .i64 (pr mm k).1) hF (by kernel_rfl) (yld_ro1 (A := AA8) (j := k * 2) hF rfl (by kernel_rfl) (by kernel_rfl) (roO 9 rfl) (by kernel_rfl) (pr_fst (k := k) (by omega) (by omega))) fun a hF => ?_
          refine eQ 82 (v0 := .slice Wa wq.length cw) (v := .slice Wa wq.length cw) hF (by kernel_rfl) (fun _ => by kernel_rfl) rfl fun a hF => ?_
          refine eQ 83 (v0 := .int .i64 (k : Int)) (v := .int .i64 (k : Int)) hF (by kernel_rfl) (fun _ => by kernel_rfl) rfl fun a hF => ?_
          refine eQ2 84 (v := .pointer (some (ea Wa (k)))) hF (by kernel_rfl) (yld_ix (kd := .i64) (e := 24) (len := wq.length) (cap := cw) (i := (k : Int)) (size := 1) (A := Wa) hF rfl (by kernel_rfl) (by kernel_rfl) (by kernel_rfl) (by kernel_rfl) (by kernel_rfl) (roK 3 rfl) (by omega) (by omega) (by rw [List.length_map]; omega)) fun a hF => ?_
          refine eQ2 85 (v := .int .u32 (nt wq k)) hF (by kernel_rfl) (yld_ro1 (A := Wa) (j := k) hF rfl (by kernel_rfl) (by kernel_rfl) (roK 3 rfl) (by kernel_rfl) (nt_at (by omega))) fun a hF => ?_
          have := all32_nt hwl k
          refine eQ 86 (v0 := .int .i64 (IntKind.i64.wrap (nt wq k))) (v := .int .i64 (nt wq k)) hF (by kernel_rfl) (fun _ => by kernel_rfl) (vi (IntWalk.i64_in _ (by omega))) fun a hF => ?_
          refine eQ 87 (v0 := .int .i64 (la + c1)) (v := .int .i64 (la + c1)) hF (by kernel_rfl) (fun _ => by kernel_rfl) rfl fun a hF => ?_
          refine eQ 88 (v0 := .int .i64 (IntKind.i64.wrap (la + c1 + 1))) (v := .int .i64 (la + c1 + 1)) hF (by kernel_rfl) (fun _ => by kernel_rfl) (wi (by omega)) fun a hF => ?_
          refine eQ2 89 (v := .int .i64 (nt wq k % (la + c1 + 1))) hF (by kernel_rfl) (yld_rem (nt wq k) (la + c1 + 1) hF rfl (by kernel_rfl) (by kernel_rfl) (by kernel_rfl) (by omega) (Int.tmod_eq_emod_of_nonneg (by omega))) fun a hF => ?_
          have := emod_bd (p := nt wq k) (q := la + c1 + 1) (by omega) (by omega)
          refine eQ 90 (v0 := .int .i64 (IntKind.i64.wrap ((pr mm k).1 + nt wq k % (la + c1 + 1)))) (v := .int .i64 ((pr mm k).1 + nt wq k % (la + c1 + 1))) hF (by kernel_rfl) (fun _ => by kernel_rfl) (wi (by omega)) fun a hF => ?_
          refine eQ 91 (v0 := .int .i64 (if (pr mm k).1 + nt wq k % (la + c1 + 1) > oAt lk wq (la + c1) k then (pr mm k).1 + nt wq k % (la + c1 + 1) else oAt lk wq (la + c1) k)) (v := .int .i64 (max (oAt lk wq (la + c1) k) ((pr mm k).1 + nt wq k % (la + c1 + 1)))) hF (by kernel_rfl) (fun _ => by kernel_rfl) (vi (max_if _ _)) fun a hF => ?_
          refine eQ 16 (v0 := .int .i64 (max (oAt lk wq (la + c1) k) ((pr mm k).1 + nt wq k % (la + c1 + 1)))) (v := .int .i64 (max (oAt lk wq (la + c1) k) ((pr mm k).1 + nt wq k % (la + c1 + 1)))) hF (by kernel_rfl) (fun _ => by kernel_rfl) rfl fun a hF => ?_
          refine wpQuiet_nil ?_
          intro w hM
          refine hK18 _ _ ?_
          refine wp_region_lit ?_
          refine sB 3 [(92, .slice AA8 lk.length cc8), (93, .int .i64 (k : Int)), (94, .int .i64 (max (oAt lk wq (la + c1) k) ((pr mm k).1 + nt wq k % (la + c1 + 1))))] hF (by kernel_rfl) fun a hF => ?_
          refine wl (eM 95 (v := .pointer (some (ea AA8 (k * 2)))) hF hM (by kernel_rfl) (yld_ix (kd := .i64) (e := 64) (len := lk.length) (cap := cc8) (i := (k : Int)) (size := 2) (A := AA8) hF rfl (by kernel_rfl) (by kernel_rfl) (by kernel_rfl) (by kernel_rfl) (by kernel_rfl) (roO 9 rfl) (by omega) (by omega) (by rw [flat2_length]; omega)) fun a w hF hM => ?_)
          refine sB 1 [(96, .pointer (some (ea AA8 (k * 2))))] hF (by kernel_rfl) fun a hF => ?_
          refine wl (sStoreO 9 (j := k * 2) (A := AA8) (flat2 ((mm).set k (max (oAt lk wq (la + c1) k) ((pr mm k).1 + nt wq k % (la + c1 + 1)), (pr mm k).2))) hF hM (by kernel_rfl) rfl rfl (by kernel_rfl) (by kernel_rfl) rfl (by kernel_rfl) rfl rfl (by rw [flat2_length]; omega) (flat2_set1 (k := k) _ (by omega) (by omega)) fun w hM => ?_)
          refine wpList_nil ?_
          refine hK17 _ _ ?_
          refine wp_region_lit ?_
          refine sB 1 [(74, .int .i64 (k : Int))] hF (by kernel_rfl) fun a hF => ?_
          refine wl (eP 75 (v0 := .int .i64 (IntKind.i64.wrap ((k : Int) + 1))) (v := .int .i64 ((k : Int) + 1)) hF (by kernel_rfl) (fun _ => by kernel_rfl) (wi (by omega)) fun a hF => ?_)
          refine sB 1 [(17, .int .i64 ((k : Int) + 1))] hF (by kernel_rfl) fun a hF => ?_
          refine wpList_nil ?_
          have hoa : oAt lk wq (la + c1) (k + 1) = max (oAt lk wq (la + c1) k) ((pr mm k).1 + nt wq k % (la + c1 + 1)) := by rw [hpk]; show max _ _ = _; rw [if_pos (by omega)]
          refine hK14 _ _ ⟨(k + 1, (mm).set k (max (oAt lk wq (la + c1) k) ((pr mm k).1 + nt wq k % (la + c1 + 1)), (pr mm k).2)), ⟨((((((((Fr.nil hF).c hF (i := 15) rfl rfl).c hF (i := 13) rfl rfl).c hF (i := 11) rfl rfl).c hF (i := 8) rfl rfl).c hF (i := 3) rfl rfl).c hF (i := 17) rfl (vi (show ((k : Int) + 1 : Int) = ((k + 1) : Int) from by omega))).c hF (i := 16) rfl (vi (show (max (oAt lk wq (la + c1) k) ((pr mm k).1 + nt wq k % (la + c1 + 1)) : Int) = oAt lk wq (la + c1) (k + 1) from by omega))), (hM.sub (((((Sub.nil.c (k := 9) rfl rfl).c (k := 8) rfl rfl).c (k := 3) rfl rfl).c (k := 2) rfl rfl).c (k := 1) rfl rfl)), (show ((k + 1) : Int) ≤ (lk.length : Int) from by omega), (show ((k + 1) : Int) ≤ (wq.length : Int) from by omega), (show ((mm).set k (max (oAt lk wq (la + c1) k) ((pr mm k).1 + nt wq k % (la + c1 + 1)), (pr mm k).2)) = oL lk wq (la + c1) (k + 1) from by show _ = (oL lk wq (la + c1) k).set k (oAt lk wq (la + c1) (k + 1), (pr (oL lk wq (la + c1) k) k).2); rw [← hmm, hoa]), (show (((mm).set k (max (oAt lk wq (la + c1) k) ((pr mm k).1 + nt wq k % (la + c1 + 1)), (pr mm k).2)).length : Int) = (lk.length : Int) from by simp; omega)⟩, (show lk.length - (k + 1) < lk.length - k from by omega)⟩
        · skip
          replace hF := hF.c hF (i := 72) (v := .bool false) rfl (bF hz8)
          replace hF := hF.c hF (i := 73) (v := .bool false) rfl (bF hz8)
          refine cF hF (by kernel_rfl) (by kernel_rfl) ?_
          refine wp_exit ?_
          refine hK12 _ _ ?_
          refine wp_seq_k fun K19 hK19 => ?_
          refine wp_seq_k fun K20 hK20 => ?_
          refine wp_region_lit ?_
          refine sB 3 [(97, .slice Wa wq.length cw), (98, .int .i64 (wq.length : Int)), (18, .int .i64 (wq.length : Int))] hF (by kernel_rfl) fun a hF => ?_
          refine wpList_nil ?_
          refine hK20 _ _ ?_
          refine wp_block ?_
          have hmk : min wq.length lk.length = k := by omega
          have hz0 : oAt lk wq (la + c1) (min wq.length lk.length) = oAt lk wq (la + c1) k := by rw [hmk]
          refine wp_loop_k (G := Nat × Nat × List (Int × Int)) (fun gg a w => Fr 128 [(16, some (.int .i64 (oAt lk wq (la + c1) gg.2.1))), (18, some (.int .i64 (gg.1 : Int))), (8, some (.bool false)), (13, some (.pointer (some ⟨bb5, 0, none⟩))), (15, some (.slice AA8 lk.length cc8))] a ∧ Mem w0.heap.size w0 [(1, some (.ro Ga (gaps.map (Value.int .u16)))), (2, some (.ro Sa (sizes.map (Value.int .u16)))), (3, some (.ro Wa (wq.map (Value.int .u32)))), (8, some (.row bb5 39 #[.int .i64 on_, .int .i64 xq])), (9, some (.own (.slice AA8 lk.length cc8) 64 2 lk.length (flat2 gg.2.2)))] w ∧ ((wq.length : Int) ≤ (gg.1 : Int)) ∧ (gg.2.1 = min gg.1 lk.length) ∧ (gg.2.2 = oL lk wq (la + c1) gg.2.1) ∧ ((gg.2.2.length : Int) = (lk.length : Int))) (fun gg => lk.length - gg.1) (wq.length, min wq.length lk.length, mm) ?_ ?_
          · refine ⟨((((((Fr.nil hF).c hF (i := 15) rfl rfl).c hF (i := 13) rfl rfl).c hF (i := 8) rfl rfl).c hF (i := 18) rfl rfl).c hF (i := 16) rfl (vi (show (oAt lk wq (la + c1) k : Int) = oAt lk wq (la + c1) (min wq.length lk.length) from by omega))), (hM.sub (((((Sub.nil.c (k := 9) rfl rfl).c (k := 8) rfl rfl).c (k := 3) rfl rfl).c (k := 2) rfl rfl).c (k := 1) rfl rfl)), (show (wq.length : Int) ≤ (wq.length : Int) from by omega), (show (min wq.length lk.length) = min wq.length lk.length from by rfl), (show mm = oL lk wq (la + c1) (min wq.length lk.length) from by rw [hmk]; exact hmm), (show (mm.length : Int) = (lk.length : Int) from by omega)⟩
          · intro gg a w hI
            intro K21 hK21
            obtain ⟨m, q, m2⟩ := gg
            try dsimp only at hI hK21
            obtain ⟨hF, hM, hz9, hz10, hz11, hz12⟩ := hI
            have hm2 : m2 = oL lk wq (la + c1) q := by assumption
            refine wp_seq_k fun K22 hK22 => ?_
            refine wp_seq_k fun K23 hK23 => ?_
            refine wp_region_lit ?_
            refine sB 4 [(99, .int .i64 (m : Int)), (100, .slice AA8 lk.length cc8), (101, .int .i64 (lk.length : Int)), (102, .bool (decide ((m : Int) < (lk.length : Int))))] hF (by kernel_rfl) fun a hF => ?_
            refine wpList_nil ?_
            refine hK23 _ _ ?_
            by_cases hz13 : (m : Int) < (lk.length : Int)
            · skip
              replace hF := hF.c hF (i := 102) (v := .bool true) rfl (bT hz13)
              refine cT hF (by kernel_rfl) (by kernel_rfl) ?_
              refine wp_skip ?_
              refine hK22 _ _ ?_
              refine wp_seq_k fun K24 hK24 => ?_
              refine wp_block ?_
              refine wp_seq_k fun K25 hK25 => ?_
              have hqm : q = m := by omega
              have hpk2 : pr m2 m = pr lk m := by rw [hm2, oL_pr (by omega) m (by omega), if_neg (by omega)]
              have hpb := hpr m (by omega)
              rw [← hpk2] at hpb
              refine wp_region_lit ?_
              refine sB 3 [(105, .int .i64 (oAt lk wq (la + c1) q)), (106, .slice AA8 lk.length cc8), (107, .int .i64 (m : Int))] hF (by kernel_rfl) fun a hF => ?_
              refine wl (eM 108 (v := .pointer (some (ea AA8 (m * 2)))) hF hM (by kernel_rfl) (yld_ix (kd := .i64) (e := 64) (len := lk.length) (cap := cc8) (i := (m : Int)) (size := 2) (A := AA8) hF rfl (by kernel_rfl) (by kernel_rfl) (by kernel_rfl) (by kernel_rfl) (by kernel_rfl) (roO 9 rfl) (by omega) (by omega) (by rw [flat2_length]; omega)) fun a w hF hM => ?_)
              refine sB 1 [(109, .pointer (some (ea AA8 (m * 2))))] hF (by kernel_rfl) fun a hF => ?_
              refine wl (eM 110 (v := .int .i64 (pr m2 m).1) hF hM (by kernel_rfl) (yld_ro1 (A := AA8) (j := m * 2) hF rfl (by kernel_rfl) (by kernel_rfl) (roO 9 rfl) (by kernel_rfl) (pr_fst (k := m) (by omega) (by omega))) fun a w hF hM => ?_)
              refine wl (eP 111 (v0 := .int .i64 (if (pr m2 m).1 > oAt lk wq (la + c1) q then (pr m2 m).1 else oAt lk wq (la + c1) q)) (v := .int .i64 (max (oAt lk wq (la + c1) q) (pr m2 m).1)) hF (by kernel_rfl) (fun _ => by kernel_rfl) (vi (max_if _ _)) fun a hF => ?_)
              refine sB 1 [(16, .int .i64 (max (oAt lk wq (la + c1) q) (pr m2 m).1))] hF (by kernel_rfl) fun a hF => ?_
              refine wpList_nil ?_
              refine hK25 _ _ ?_
              refine wp_region_lit ?_
              refine sB 3 [(112, .slice AA8 lk.length cc8), (113, .int .i64 (m : Int)), (114, .int .i64 (max (oAt lk wq (la + c1) q) (pr m2 m).1))] hF (by kernel_rfl) fun a hF => ?_
              refine wl (eM 115 (v := .pointer (some (ea AA8 (m * 2)))) hF hM (by kernel_rfl) (yld_ix (kd := .i64) (e := 64) (len := lk.length) (cap := cc8) (i := (m : Int)) (size := 2) (A := AA8) hF rfl (by kernel_rfl) (by kernel_rfl) (by kernel_rfl) (by kernel_rfl) (by kernel_rfl) (roO 9 rfl) (by omega) (by omega) (by rw [flat2_length]; omega)) fun a w hF hM => ?_)
              refine sB 1 [(116, .pointer (some (ea AA8 (m * 2))))] hF (by kernel_rfl) fun a hF => ?_
              refine wl (sStoreO 9 (j := m * 2) (A := AA8) (flat2 ((m2).set m (max (oAt lk wq (la + c1) q) (pr m2 m).1, (pr m2 m).2))) hF hM (by kernel_rfl) rfl rfl (by kernel_rfl) (by kernel_rfl) rfl (by kernel_rfl) rfl rfl (by rw [flat2_length]; omega) (flat2_set1 (k := m) _ (by omega) (by omega)) fun w hM => ?_)
              refine wpList_nil ?_
              refine hK24 _ _ ?_
              refine wp_region_lit ?_
              refine sB 1 [(103, .int .i64 (m : Int))] hF (by kernel_rfl) fun a hF => ?_
              refine wl (eP 104 (v0 := .int .i64 (IntKind.i64.wrap ((m : Int) + 1))) (v := .int .i64 ((m : Int) + 1)) hF (by kernel_rfl) (fun _ => by kernel_rfl) (wi (by omega)) fun a hF => ?_)
              refine sB 1 [(18, .int .i64 ((m : Int) + 1))] hF (by kernel_rfl) fun a hF => ?_
              refine wpList_nil ?_
              have hoa : oAt lk wq (la + c1) (q + 1) = max (oAt lk wq (la + c1) q) (pr m2 m).1 := by rw [hpk2, ← hqm]; show max _ _ = _; rw [if_neg (by omega), Int.add_zero]
              refine hK21 _ _ ⟨(m + 1, q + 1, (m2).set m (max (oAt lk wq (la + c1) q) (pr m2 m).1, (pr m2 m).2)), ⟨((((((Fr.nil hF).c hF (i := 15) rfl rfl).c hF (i := 13) rfl rfl).c hF (i := 8) rfl rfl).c hF (i := 18) rfl (vi (show ((m : Int) + 1 : Int) = ((m + 1) : Int) from by omega))).c hF (i := 16) rfl (vi (show (max (oAt lk wq (la + c1) q) (pr m2 m).1 : Int) = oAt lk wq (la + c1) (q + 1) from by omega))), (hM.sub (((((Sub.nil.c (k := 9) rfl rfl).c (k := 8) rfl rfl).c (k := 3) rfl rfl).c (k := 2) rfl rfl).c (k := 1) rfl rfl)), (show (wq.length : Int) ≤ ((m + 1) : Int) from by omega), (show (q + 1) = min (m + 1) lk.length from by omega), (show ((m2).set m (max (oAt lk wq (la + c1) q) (pr m2 m).1, (pr m2 m).2)) = oL lk wq (la + c1) (q + 1) from by show _ = (oL lk wq (la + c1) q).set q (oAt lk wq (la + c1) (q + 1), (pr (oL lk wq (la + c1) q) q).2); rw [← hm2, hoa, hqm]), (show (((m2).set m (max (oAt lk wq (la + c1) q) (pr m2 m).1, (pr m2 m).2)).length : Int) = (lk.length : Int) from by simp; omega)⟩, (show lk.length - (m + 1) < lk.length - m from by omega)⟩
            · skip
              replace hF := hF.c hF (i := 102) (v := .bool false) rfl (bF hz13)
              refine cF hF (by kernel_rfl) (by kernel_rfl) ?_
              refine wp_exit ?_
              refine hK19 _ _ ?_
              refine wp_seq_k fun K26 hK26 => ?_
              have hfin : cfB on_ xq m2 = true ∧ ckE on_ xq m2 = 0 := by rw [hm2, show q = lk.length from by omega]; exact hout hz1
              refine wp_region_lit ?_
              refine wl (eL 118 8 0 (v := .agg #[.int .i64 on_, .int .i64 xq]) hF hM (by kernel_rfl) rfl rfl (by kernel_rfl) (by kernel_rfl) fun a w hF hM => ?_)
              refine sB 1 [(119, .slice AA8 lk.length cc8)] hF (by kernel_rfl) fun a hF => ?_
              refine wl (eM 120 (v := .tuple #[.bool true, .int .i64 (ckE on_ xq m2)]) hF hM (by kernel_rfl) (Yld.to (yld_call (f := 33) (args := #[.agg #[.int .i64 on_, .int .i64 xq], .slice AA8 lk.length cc8]) hF (by kernel_rfl) (fun _ => by kernel_rfl) (fun w hM => (by rw [show lk.length = m2.length from by first | omega | (simp; done) | (simp; omega)]; exact conforms_w on_ xq AA8 m2 _ w (ro_of_own (hM.ok 9 _ rfl))))) (by rw [hfin.1])) fun a w hF hM => ?_)
              refine sB 5 [(117, .tuple #[.bool true, .int .i64 (ckE on_ xq m2)]), (121, .bool true), (122, .int .i64 (ckE on_ xq m2)), (19, .bool true), (20, .int .i64 (ckE on_ xq m2))] hF (by kernel_rfl) fun a hF => ?_
              refine wpList_nil ?_
              refine hK26 _ _ ?_
              refine wp_seq_k fun K27 hK27 => ?_
              refine wp_region_lit ?_
              refine sB 3 [(123, .bool true), (124, .bool true), (125, .int .i64 (ckE on_ xq m2))] hF (by kernel_rfl) fun a hF => ?_
              refine wl (eP 126 (v0 := .bool (decide (ckE on_ xq m2 = 0))) (v := .bool true) hF (by kernel_rfl) (fun _ => by kernel_rfl) (bT hfin.2) fun a hF => ?_)
              refine sB 2 [(127, .bool true), (8, .bool true)] hF (by kernel_rfl) fun a hF => ?_
              refine wpList_nil ?_
              refine hK27 _ _ ?_
              refine wp_ret ?_
              refine hR0 _ _ ?_
              refine ret_of hF hM (.tmp rfl (.nil)) ?_
              exact ⟨rfl, hM.bel⟩
      · skip
        refine wp_region_lit ?_
        refine sB 3 [(64, .int .i64 (k : Int)), (65, .slice AA8 lk.length cc8), (66, .int .i64 (lk.length : Int))] hF (by kernel_rfl) fun a hF => ?_
        refine wl (eP 67 (v0 := .bool (decide ((k : Int) < (lk.length : Int)))) (v := .bool false) hF (by kernel_rfl) (fun _ => by kernel_rfl) (bF hz7) fun a hF => ?_)
        refine sB 6 [(68, .bool false), (69, undef), (70, undef), (71, undef), (72, undef), (73, .bool false)] hF (by kernel_rfl) fun a hF => ?_
        refine wpList_nil ?_
        refine hK16 _ _ ?_
        refine cF hF (by kernel_rfl) (by kernel_rfl) ?_
        refine wp_exit ?_
        refine hK12 _ _ ?_
        refine wp_seq_k fun K28 hK28 => ?_
        refine wp_seq_k fun K29 hK29 => ?_
        refine wp_region_lit ?_
        refine sB 3 [(97, .slice Wa wq.length cw), (98, .int .i64 (wq.length : Int)), (18, .int .i64 (wq.length : Int))] hF (by kernel_rfl) fun a hF => ?_
        refine wpList_nil ?_
        refine hK29 _ _ ?_
        refine wp_block ?_
        have hmk : min wq.length lk.length = k := by omega
        have hz0 : oAt lk wq (la + c1) (min wq.length lk.length) = oAt lk wq (la + c1) k := by rw [hmk]
        refine wp_loop_k (G := Nat × Nat × List (Int × Int)) (fun gg a w => Fr 128 [(16, some (.int .i64 (oAt lk wq (la + c1) gg.2.1))), (18, some (.int .i64 (gg.1 : Int))), (8, some (.bool false)), (13, some (.pointer (some ⟨bb5, 0, none⟩))), (15, some (.slice AA8 lk.length cc8))] a ∧ Mem w0.heap.size w0 [(1, some (.ro Ga (gaps.map (Value.int .u16)))), (2, some (.ro Sa (sizes.map (Value.int .u16)))), (3, some (.ro Wa (wq.map (Value.int .u32)))), (8, some (.row bb5 39 #[.int .i64 on_, .int .i64 xq])), (9, some (.own (.slice AA8 lk.length cc8) 64 2 lk.length (flat2 gg.2.2)))] w ∧ ((wq.length : Int) ≤ (gg.1 : Int)) ∧ (gg.2.1 = min gg.1 lk.length) ∧ (gg.2.2 = oL lk wq (la + c1) gg.2.1) ∧ ((gg.2.2.length : Int) = (lk.length : Int))) (fun gg => lk.length - gg.1) (wq.length, min wq.length lk.length, mm) ?_ ?_
        · refine ⟨((((((Fr.nil hF).c hF (i := 15) rfl rfl).c hF (i := 13) rfl rfl).c hF (i := 8) rfl rfl).c hF (i := 18) rfl rfl).c hF (i := 16) rfl (vi (show (oAt lk wq (la + c1) k : Int) = oAt lk wq (la + c1) (min wq.length lk.length) from by omega))), (hM.sub (((((Sub.nil.c (k := 9) rfl rfl).c (k := 8) rfl rfl).c (k := 3) rfl rfl).c (k := 2) rfl rfl).c (k := 1) rfl rfl)), (show (wq.length : Int) ≤ (wq.length : Int) from by omega), (show (min wq.length lk.length) = min wq.length lk.length from by rfl), (show mm = oL lk wq (la + c1) (min wq.length lk.length) from by rw [hmk]; exact hmm), (show (mm.length : Int) = (lk.length : Int) from by omega)⟩
        · intro gg a w hI
          intro K30 hK30
          obtain ⟨m, q, m2⟩ := gg
          try dsimp only at hI hK30
          obtain ⟨hF, hM, hz14, hz15, hz16, hz17⟩ := hI
          have hm2 : m2 = oL lk wq (la + c1) q := by assumption
          refine wp_seq_k fun K31 hK31 => ?_
          refine wp_seq_k fun K32 hK32 => ?_
          refine wp_region_lit ?_
          refine sB 3 [(99, .int .i64 (m : Int)), (100, .slice AA8 lk.length cc8), (101, .int .i64 (lk.length : Int))] hF (by kernel_rfl) fun a hF => ?_
          refine wl (eP 102 (v0 := .bool (decide ((m : Int) < (lk.length : Int)))) (v := .bool false) hF (by kernel_rfl) (fun _ => by kernel_rfl) (bF (by omega)) fun a hF => ?_)
          refine wpList_nil ?_
          refine hK32 _ _ ?_
          refine cF hF (by kernel_rfl) (by kernel_rfl) ?_
          refine wp_exit ?_
          refine hK28 _ _ ?_
          refine wp_seq_k fun K33 hK33 => ?_
          have hfin : cfB on_ xq m2 = true ∧ ckE on_ xq m2 = 0 := by rw [hm2, show q = lk.length from by omega]; exact hout hz1
          refine wp_region_lit ?_
          refine wl (eL 118 8 0 (v := .agg #[.int .i64 on_, .int .i64 xq]) hF hM (by kernel_rfl) rfl rfl (by kernel_rfl) (by kernel_rfl) fun a w hF hM => ?_)
          refine sB 1 [(119, .slice AA8 lk.length cc8)] hF (by kernel_rfl) fun a hF => ?_
          refine wl (eM 120 (v := .tuple #[.bool true, .int .i64 (ckE on_ xq m2)]) hF hM (by kernel_rfl) (Yld.to (yld_call (f := 33) (args := #[.agg #[.int .i64 on_, .int .i64 xq], .slice AA8 lk.length cc8]) hF (by kernel_rfl) (fun _ => by kernel_rfl) (fun w hM => (by rw [show lk.length = m2.length from by first | omega | (simp; done) | (simp; omega)]; exact conforms_w on_ xq AA8 m2 _ w (ro_of_own (hM.ok 9 _ rfl))))) (by rw [hfin.1])) fun a w hF hM => ?_)
          refine sB 5 [(117, .tuple #[.bool true, .int .i64 (ckE on_ xq m2)]), (121, .bool true), (122, .int .i64 (ckE on_ xq m2)), (19, .bool true), (20, .int .i64 (ckE on_ xq m2))] hF (by kernel_rfl) fun a hF => ?_
          refine wpList_nil ?_
          refine hK33 _ _ ?_
          refine wp_seq_k fun K34 hK34 => ?_
          refine wp_region_lit ?_
          refine sB 3 [(123, .bool true), (124, .bool true), (125, .int .i64 (ckE on_ xq m2))] hF (by kernel_rfl) fun a hF => ?_
          refine wl (eP 126 (v0 := .bool (decide (ckE on_ xq m2 = 0))) (v := .bool true) hF (by kernel_rfl) (fun _ => by kernel_rfl) (bT hfin.2) fun a hF => ?_)
          refine sB 2 [(127, .bool true), (8, .bool true)] hF (by kernel_rfl) fun a hF => ?_
          refine wpList_nil ?_
          refine hK34 _ _ ?_
          refine wp_ret ?_
          refine hR0 _ _ ?_
          refine ret_of hF hM (.tmp rfl (.nil)) ?_
          exact ⟨rfl, hM.bel⟩
  · skip
    refine wp_region_lit ?_
    refine wl (eL 43 5 0 (v := .agg #[.int .i64 xb, .int .i64 xq]) hF hM (by kernel_rfl) rfl rfl (by kernel_rfl) (by kernel_rfl) fun a w hF hM => ?_)
    refine wl (eL 44 6 0 (v := .agg #[.int .i64 sr, .int .i64 la]) hF hM (by kernel_rfl) rfl rfl (by kernel_rfl) (by kernel_rfl) fun a w hF hM => ?_)
    refine wl (eM 45 (v := .tuple #[.agg #[.int .i64 0, .int .i64 0], .int .i64 6]) hF hM (by kernel_rfl) (yld_call (f := 24) (args := #[.agg #[.int .i64 xb, .int .i64 xq], .agg #[.int .i64 sr, .int .i64 la]]) hF (by kernel_rfl) (fun _ => by kernel_rfl) (fun w hM => jn_to (ou_6 k1 (hoq hz1)) (output_w xb xq sr la w))) fun a w hF hM => ?_)
    refine sB 3 [(42, .tuple #[.agg #[.int .i64 0, .int .i64 0], .int .i64 6]), (46, .agg #[.int .i64 0, .int .i64 0]), (47, .int .i64 6)] hF (by kernel_rfl) fun a hF => ?_
    refine wl (eN 13 11 (t := 39) (fun b => .pointer (some ⟨b, 0, none⟩)) #[.int .i64 0, .int .i64 0] hF hM (by kernel_rfl) (fun _ => by kernel_rfl) fun bb9 a w hF hM => ?_)
    refine wl (sStore (i := 11) (off := 0) (cs' := #[.int .i64 0, .int .i64 0]) hF hM (by kernel_rfl) rfl rfl (by kernel_rfl) (by kernel_rfl) rfl (by kernel_rfl) fun w hM => ?_)
    refine sB 1 [(14, .int .i64 6)] hF (by kernel_rfl) fun a hF => ?_
    refine wpList_nil ?_
    refine hK7 _ _ ?_
    refine wp_seq_k fun K35 hK35 => ?_
    refine wp_seq_k fun K36 hK36 => ?_
    refine wp_region_lit ?_
    refine sB 1 [(48, .int .i64 0)] hF (by kernel_rfl) fun a hF => ?_
    refine wl (eP 49 (v0 := .bool (!decide (0 = 0))) (v := .bool false) hF (by kernel_rfl) (fun _ => by kernel_rfl) (nT (by omega)) fun a hF => ?_)
    refine sB 2 [(50, .bool false), (51, .int .i64 6)] hF (by kernel_rfl) fun a hF => ?_
    refine wl (eP 52 (v0 := .bool (!decide (6 = 0))) (v := .bool true) hF (by kernel_rfl) (fun _ => by kernel_rfl) (nF (by omega)) fun a hF => ?_)
    refine sB 1 [(53, .bool true)] hF (by kernel_rfl) fun a hF => ?_
    refine wpList_nil ?_
    refine hK36 _ _ ?_
    refine cT hF (by kernel_rfl) (by kernel_rfl) ?_
    refine wp_seq_k fun K37 hK37 => ?_
    refine wp_region_lit ?_
    refine sB 1 [(54, .int .i64 0)] hF (by kernel_rfl) fun a hF => ?_
    refine wl (eP 55 (v0 := .bool (decide (0 = 0))) (v := .bool true) hF (by kernel_rfl) (fun _ => by kernel_rfl) (bT (by omega)) fun a hF => ?_)
    refine sB 2 [(56, .bool true), (57, .int .i64 6)] hF (by kernel_rfl) fun a hF => ?_
    refine wl (eP 58 (v0 := .bool (decide (6 = 6))) (v := .bool true) hF (by kernel_rfl) (fun _ => by kernel_rfl) (bT (by omega)) fun a hF => ?_)
    refine sB 2 [(59, .bool true), (8, .bool true)] hF (by kernel_rfl) fun a hF => ?_
    refine wpList_nil ?_
    refine hK37 _ _ ?_
    refine wp_ret ?_
    refine hR0 _ _ ?_
    refine ret_of hF hM (.tmp rfl (.nil)) ?_
    exact ⟨rfl, hM.bel⟩

end Go.Proofs.Ytoighcbbaacnaaa
