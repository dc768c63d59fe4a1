/-
  The walk of CurveWaits.
-/
import Derived.Test.YtoighcbbaacnaaaCurveJ
import Derived.Test.YtoighcbbaacnaaaCfTrW
namespace Go.Proofs.Ytoighcbbaacnaaa
open Go.RowKit
set_option linter.unusedVariables false
set_option linter.unusedSimpArgs false

set_option maxRecDepth 100000 in
set_option maxHeartbeats 8000000 in
theorem curveWaits_walk (bu ra : Int) (Ga : Option Addr) (gaps : List Int) (cg : Nat) (Sa : Option Addr) (sizes : List Int) (cs : Nat) (mo la lt : Int) (w0 : World) (hGa : Ro w0 Ga (gaps.map (Value.int .u16))) (hSa : Ro w0 Sa (sizes.map (Value.int .u16))) (hg : All16 gaps) (hs : All16 sizes) (hmg : gaps.length ≤ 9223372036854775807) (hms : sizes.length ≤ 9223372036854775807) (h : 0 ≤ bu ∧ bu < 4294967296 ∧ 0 ≤ ra ∧ ra < 4294967296 ∧ 0 ≤ mo ∧ mo < 4294967296 ∧ 0 ≤ la ∧ la ≤ 65535 ∧ 0 ≤ lt ∧ lt < 4294967296) :
    Calls Try.prog 8 #[.agg #[.int .u32 bu, .int .u32 ra, .slice Ga gaps.length cg, .slice Sa sizes.length cs], .int .u32 mo, .int .u16 la, .int .u32 lt] w0 (Ret w0 (.bool true)) := by
  obtain ⟨xb, hxb⟩ : ∃ z : Int, 1 + bu % 1048576 = z := ⟨_, rfl⟩
  obtain ⟨xq, hxq⟩ : ∃ z : Int, 1 + ra % 2097152 = z := ⟨_, rfl⟩
  have hbk : bkE xb xq = 0 := by unfold bkE; rw [if_pos]; omega
  obtain ⟨sr, hsr⟩ : ∃ z : Int, min 2097152 (xq + mo % 262144) = z := ⟨_, rfl⟩
  have v1 : svE sr la = 0 := svE_yes (by omega)
  have k1 := cs_0 (b := xb) (q := xq) hbk v1 (by omega)
  obtain ⟨lk, hlk⟩ : ∃ z : List (Int × Int), cfDr bu ra gaps sizes = z := ⟨_, rfl⟩
  have hcf : cfB xb xq lk = true := by rw [← hlk, ← hxb, ← hxq]; exact cfTr_cf (by unfold bkE; omega) (dr_trE hg hs)
  have htr : trE lk = 0 := ckE_tr (cf_iff.1 hcf).1
  have hle : lk.length ≤ 30 := by rw [← hlk]; exact Nat.le_trans (cfTr_le (by unfold bkE; omega) (dr_trE hg hs)) (dr_le _ _)
  have hpr : ∀ k, k < lk.length → 0 ≤ (pr lk k).1 ∧ (pr lk k).1 ≤ 1966050 ∧ 1 ≤ (pr lk k).2 ∧ (pr lk k).2 ≤ 65536 := by rw [← hlk]; exact fun k hk => cfTr_pr (p := fun x => 0 ≤ x.1 ∧ x.1 ≤ 1966050 ∧ 1 ≤ x.2 ∧ x.2 ≤ 65536) (by unfold bkE; omega) (dr_trE hg hs) (fun j hj => dr_pr hg hs hj) hk
  have b2 : 0 ≤ xq * la ∧ xq * la ≤ 137436856320 := mul_bd 1 2097152 0 65535 (by omega) (by omega) (by omega) (by omega) (by decide)
  have b1 := cq_in (n := xq * la) (d := 1048576) (B := 1000000) (by decide) (by omega) (by omega)
  obtain ⟨nb, hnb⟩ : ∃ z : Int, xb + cq (xq * la) 1048576 = z := ⟨_, rfl⟩
  have b3 : 0 ≤ nb ∧ nb ≤ 3000000 := by omega
  refine enterK 93 Try.func8 rfl rfl rfl ?_
  intro a hF Q0 hR0 hN0
  have hM := Mem.start w0
  replace hM := hM.addOld 1 hGa (Nat.le_refl _)
  replace hM := hM.addOld 2 hSa (Nat.le_refl _)
  refine wp_seq_k fun K1 hK1 => ?_
  refine wp_region_lit ?_
  refine wl (eN 4 3 (t := 42) (fun b => .pointer (some ⟨b, 0, none⟩)) #[.int .u32 bu, .int .u32 ra, .slice Ga gaps.length cg, .slice Sa sizes.length cs] hF hM (by kernel_rfl) (fun _ => by kernel_rfl) fun bb1 a w hF hM => ?_)
  refine sB 1 [(8, .bool false)] hF (by kernel_rfl) fun a hF => ?_
  refine wpList_nil ?_
  refine hK1 _ _ ?_
  refine wp_seq_k fun K2 hK2 => ?_
  refine wp_seq_k fun K3 hK3 => ?_
  refine wp_region_lit ?_
  refine wl (eM 19 (v := .bool true) hF hM (by kernel_rfl) (yld_call (f := 18) (args := #[]) hF (by kernel_rfl) (fun _ => by kernel_rfl) (fun w hM => works4_w w)) fun a w hF hM => ?_)
  refine sB 1 [(20, .bool false)] hF (by kernel_rfl) fun a hF => ?_
  refine wpList_nil ?_
  refine hK3 _ _ ?_
  refine cF hF (by kernel_rfl) (by kernel_rfl) ?_
  refine wp_skip ?_
  refine hK2 _ _ ?_
  refine wp_seq_k fun K4 hK4 => ?_
  refine rF (by kernel_rfl) (by kernel_rfl) (fun S a w => ∃ AA2 : Option Addr, ∃ cc2 : Nat, ∃ bb3 : Nat, Fr 93 [(1, some (.int .u32 mo)), (2, some (.int .u16 la)), (3, some (.int .u32 lt)), (4, some (.pointer (some ⟨bb1, 0, none⟩))), (8, some (.bool false)), (9, (cond (S.getD 4 false) (some (.pointer (some ⟨bb3, 0, none⟩))) none)), (10, (cond (S.getD 6 false) (some (.slice AA2 lk.length cc2)) none)), (21, (cond (S.getD 0 false) (some (.agg #[.int .u32 bu, .int .u32 ra, .slice Ga gaps.length cg, .slice Sa sizes.length cs])) none)), (22, (cond (S.getD 1 false) (some (.agg #[.int .i64 xb, .int .i64 xq])) none)), (23, (cond (S.getD 2 false) (some (.agg #[.int .u32 bu, .int .u32 ra, .slice Ga gaps.length cg, .slice Sa sizes.length cs])) none)), (24, (cond (S.getD 3 false) (some (.slice AA2 lk.length cc2)) none))] a ∧ Mem w0.heap.size w0 [(1, some (.ro Ga (gaps.map (Value.int .u16)))), (2, some (.ro Sa (sizes.map (Value.int .u16)))), (3, some (.row bb1 42 #[.int .u32 bu, .int .u32 ra, .slice Ga gaps.length cg, .slice Sa sizes.length cs])), (4, (cond (S.getD 3 false) (some (.own (.slice AA2 lk.length cc2) 64 2 lk.length (flat2 lk))) none)), (5, (cond (S.getD 5 false) (some (.row bb3 39 #[.int .i64 xb, .int .i64 xq])) (cond (S.getD 4 false) (some (.row bb3 39 #[.int .i64 0, .int .i64 0])) none)))] w) ?_ ?_ ?_
  · exact ⟨none, 0, 0, ((((((((((((Fr.nil hF).co hF (i := 24) (by kernel_rfl)).co hF (i := 23) (by kernel_rfl)).co hF (i := 22) (by kernel_rfl)).co hF (i := 21) (by kernel_rfl)).co hF (i := 10) (by kernel_rfl)).co hF (i := 9) (by kernel_rfl)).co hF (i := 8) (by kernel_rfl)).co hF (i := 4) (by kernel_rfl)).co hF (i := 3) (by kernel_rfl)).co hF (i := 2) (by kernel_rfl)).co hF (i := 1) (by kernel_rfl)), hM.drew.sub (((((Sub.nil.co (k := 5) (by kernel_rfl)).co (k := 4) (by kernel_rfl)).co (k := 3) (by kernel_rfl)).co (k := 2) (by kernel_rfl)).co (k := 1) (by kernel_rfl))⟩
  · refine stC ?_ (stC ?_ (stC ?_ (stC ?_ (stC ?_ (stC ?_ (stC ?_ (trivial)))))))
    · intro s0 s1 s2 s3 s4 s5 s6 hc hi hp a w hS
      obtain rfl : s0 = false := hi
      obtain ⟨AA2, cc2, bb3, hF, hM⟩ := hS
      refine eL 21 3 0 (v := .agg #[.int .u32 bu, .int .u32 ra, .slice Ga gaps.length cg, .slice Sa sizes.length cs]) hF hM (by kernel_rfl) rfl rfl (by kernel_rfl) (by kernel_rfl) fun a w hF hM => ?_
      exact ⟨AA2, cc2, bb3, ((hF.repl 7 (by kernel_rfl)).cast (by kernel_rfl)), (hM.cast (by kernel_rfl))⟩
    · intro s0 s1 s2 s3 s4 s5 s6 hc hi hp a w hS
      obtain rfl : s1 = false := hi
      obtain rfl : s0 = true := hp 0 (by kernel_rfl)
      obtain ⟨AA2, cc2, bb3, hF, hM⟩ := hS
      refine eM 22 (v := .agg #[.int .i64 xb, .int .i64 xq]) hF hM (by kernel_rfl) (yld_call (f := 19) (args := #[.agg #[.int .u32 bu, .int .u32 ra, .slice Ga gaps.length cg, .slice Sa sizes.length cs]]) hF (by kernel_rfl) (fun _ => by kernel_rfl) (fun w hM => agg_to hxb hxq (draftBucket_w bu ra (.slice Ga gaps.length cg) (.slice Sa sizes.length cs) w (by omega)))) fun a w hF hM => ?_
      exact ⟨AA2, cc2, bb3, ((hF.repl 8 (by kernel_rfl)).cast (by kernel_rfl)), (hM.cast (by kernel_rfl))⟩
    · intro s0 s1 s2 s3 s4 s5 s6 hc hi hp a w hS
      obtain rfl : s2 = false := hi
      obtain ⟨AA2, cc2, bb3, hF, hM⟩ := hS
      refine eL 23 3 0 (v := .agg #[.int .u32 bu, .int .u32 ra, .slice Ga gaps.length cg, .slice Sa sizes.length cs]) hF hM (by kernel_rfl) rfl rfl (by kernel_rfl) (by kernel_rfl) fun a w hF hM => ?_
      exact ⟨AA2, cc2, bb3, ((hF.repl 9 (by kernel_rfl)).cast (by kernel_rfl)), (hM.cast (by kernel_rfl))⟩
    · intro s0 s1 s2 s3 s4 s5 s6 hc hi hp a w hS
      obtain rfl : s3 = false := hi
      obtain rfl : s2 = true := hp 2 (by kernel_rfl)
      obtain rfl : s6 = false := hc.f 6 3 (by kernel_rfl) rfl
      obtain ⟨AA2, cc2, bb3, hF, hM⟩ := hS
      refine sOwn 4 (f := 30) (args := #[.agg #[.int .u32 bu, .int .u32 ra, .slice Ga gaps.length cg, .slice Sa sizes.length cs]]) (mk := fun v => v) (e := 64) (size := 2) (m := lk.length) (xs := (flat2 lk)) hF hM (by kernel_rfl) rfl (by decide) (by kernel_rfl) (fun _ => by kernel_rfl) (by rw [← hlk]; exact conforming_w bu ra Ga gaps cg Sa sizes cs w (hM.ok 1 _ rfl) (hM.ok 2 _ rfl) hg hs (by omega) (by omega) (by omega)) fun AA2 cc2 a w hF hM => ?_
      exact ⟨AA2, cc2, bb3, ((hF.repl 10 (by kernel_rfl)).cast (by kernel_rfl)), ((hM.repl 3 (by kernel_rfl)).cast (by kernel_rfl))⟩
    · intro s0 s1 s2 s3 s4 s5 s6 hc hi hp a w hS
      obtain rfl : s4 = false := hi
      obtain rfl : s5 = false := hc.f 5 4 (by kernel_rfl) rfl
      obtain ⟨AA2, cc2, bb3, hF, hM⟩ := hS
      refine eN 9 5 (t := 39) (fun b => .pointer (some ⟨b, 0, none⟩)) #[.int .i64 0, .int .i64 0] hF hM (by kernel_rfl) (fun _ => by kernel_rfl) fun bb3 a w hF hM => ?_
      exact ⟨AA2, cc2, bb3, ((hF.repl 5 (by kernel_rfl)).cast (by kernel_rfl)), ((hM.repl 4 (by kernel_rfl)).cast (by kernel_rfl))⟩
    · intro s0 s1 s2 s3 s4 s5 s6 hc hi hp a w hS
      obtain rfl : s5 = false := hi
      obtain rfl : s4 = true := hp 4 (by kernel_rfl)
      obtain rfl : s1 = true := hp 1 (by kernel_rfl)
      obtain ⟨AA2, cc2, bb3, hF, hM⟩ := hS
      refine sStore (i := 5) (off := 0) (cs' := #[.int .i64 xb, .int .i64 xq]) hF hM (by kernel_rfl) rfl rfl (by kernel_rfl) (by kernel_rfl) rfl (by kernel_rfl) fun w hM => ?_
      exact ⟨AA2, cc2, bb3, (hF.cast (by kernel_rfl)), ((hM.repl 4 (by kernel_rfl)).cast (by kernel_rfl))⟩
    · intro s0 s1 s2 s3 s4 s5 s6 hc hi hp a w hS
      obtain rfl : s6 = false := hi
      obtain rfl : s3 = true := hp 3 (by kernel_rfl)
      obtain ⟨AA2, cc2, bb3, hF, hM⟩ := hS
      refine eP 10 (v0 := .slice AA2 lk.length cc2) (v := .slice AA2 lk.length cc2) hF (by kernel_rfl) (fun _ => by kernel_rfl) rfl fun a hF => ?_
      exact ⟨AA2, cc2, bb3, ((hF.repl 6 (by kernel_rfl)).cast (by kernel_rfl)), (hM.cast (by kernel_rfl))⟩
  · intro a w hS
    obtain ⟨AA2, cc2, bb3, hF, hM⟩ := hS
    replace hF : Fr 93 [(1, some (.int .u32 mo)), (2, some (.int .u16 la)), (3, some (.int .u32 lt)), (4, some (.pointer (some ⟨bb1, 0, none⟩))), (8, some (.bool false)), (9, some (.pointer (some ⟨bb3, 0, none⟩))), (10, some (.slice AA2 lk.length cc2)), (21, some (.agg #[.int .u32 bu, .int .u32 ra, .slice Ga gaps.length cg, .slice Sa sizes.length cs])), (22, some (.agg #[.int .i64 xb, .int .i64 xq])), (23, some (.agg #[.int .u32 bu, .int .u32 ra, .slice Ga gaps.length cg, .slice Sa sizes.length cs])), (24, some (.slice AA2 lk.length cc2))] a := hF.cast (by kernel_rfl)
    replace hM : Mem w0.heap.size w0 [(1, some (.ro Ga (gaps.map (Value.int .u16)))), (2, some (.ro Sa (sizes.map (Value.int .u16)))), (3, some (.row bb1 42 #[.int .u32 bu, .int .u32 ra, .slice Ga gaps.length cg, .slice Sa sizes.length cs])), (4, some (.own (.slice AA2 lk.length cc2) 64 2 lk.length (flat2 lk))), (5, some (.row bb3 39 #[.int .i64 xb, .int .i64 xq]))] w := hM.cast (by kernel_rfl)
    refine hK4 _ _ ?_
    refine wp_seq_k fun K5 hK5 => ?_
    refine wp_region_lit ?_
    refine sB 1 [(25, .pointer (some ⟨bb3, 1, none⟩))] hF (by kernel_rfl) fun a hF => ?_
    refine wl (eL 26 5 1 (v := .int .i64 xq) hF hM (by kernel_rfl) rfl rfl (by kernel_rfl) (by kernel_rfl) fun a w hF hM => ?_)
    refine sB 1 [(27, .int .u32 mo)] hF (by kernel_rfl) fun a hF => ?_
    refine wl (eM 28 (v := .int .u32 (mo % 262144)) hF hM (by kernel_rfl) (yld_rem mo 262144 hF rfl (by kernel_rfl) (by kernel_rfl) (by kernel_rfl) (by decide) (Int.tmod_eq_emod_of_nonneg (by omega))) fun a w hF hM => ?_)
    refine wl (eP 29 (v0 := .int .i64 (IntKind.i64.wrap (mo % 262144))) (v := .int .i64 (mo % 262144)) hF (by kernel_rfl) (fun _ => by kernel_rfl) (vi (IntWalk.i64_in _ (by omega))) fun a hF => ?_)
    refine wl (eP 30 (v0 := .int .i64 (IntKind.i64.wrap (xq + mo % 262144))) (v := .int .i64 (xq + mo % 262144)) hF (by kernel_rfl) (fun _ => by kernel_rfl) (wi (by omega)) fun a hF => ?_)
    refine wl (eP 31 (v0 := .int .i64 (if xq + mo % 262144 < 2097152 then xq + mo % 262144 else 2097152)) (v := .int .i64 sr) hF (by kernel_rfl) (fun _ => by kernel_rfl) (vi (by rw [← hsr]; exact (min_if _ _))) fun a hF => ?_)
    refine sB 1 [(32, .int .u16 la)] hF (by kernel_rfl) fun a hF => ?_
    refine wl (eP 33 (v0 := .int .i64 (IntKind.i64.wrap la)) (v := .int .i64 la) hF (by kernel_rfl) (fun _ => by kernel_rfl) (vi (IntWalk.i64_in _ (by omega))) fun a hF => ?_)
    refine sB 1 [(34, .agg #[.int .i64 sr, .int .i64 la])] hF (by kernel_rfl) fun a hF => ?_
    refine wl (eN 11 6 (t := 23) (fun b => .pointer (some ⟨b, 0, none⟩)) #[.int .i64 0, .int .i64 0] hF hM (by kernel_rfl) (fun _ => by kernel_rfl) fun bb4 a w hF hM => ?_)
    refine wl (sStore (i := 6) (off := 0) (cs' := #[.int .i64 sr, .int .i64 la]) hF hM (by kernel_rfl) rfl rfl (by kernel_rfl) (by kernel_rfl) rfl (by kernel_rfl) fun w hM => ?_)
    refine wpList_nil ?_
    refine hK5 _ _ ?_
    refine wp_seq_k fun K6 hK6 => ?_
    refine wp_region_lit ?_
    refine wl (eL 36 5 0 (v := .agg #[.int .i64 xb, .int .i64 xq]) hF hM (by kernel_rfl) rfl rfl (by kernel_rfl) (by kernel_rfl) fun a w hF hM => ?_)
    refine wl (eL 37 6 0 (v := .agg #[.int .i64 sr, .int .i64 la]) hF hM (by kernel_rfl) rfl rfl (by kernel_rfl) (by kernel_rfl) fun a w hF hM => ?_)
    refine wl (eM 38 (v := .tuple #[.int .i64 nb, .int .i64 0]) hF hM (by kernel_rfl) (yld_call (f := 22) (args := #[.agg #[.int .i64 xb, .int .i64 xq], .agg #[.int .i64 sr, .int .i64 la]]) hF (by kernel_rfl) (fun _ => by kernel_rfl) (fun w hM => tup_to ((bl_yes k1).trans hnb) k1 (backlog_w xb xq sr la w))) fun a w hF hM => ?_)
    refine sB 5 [(35, .tuple #[.int .i64 nb, .int .i64 0]), (39, .int .i64 nb), (40, .int .i64 0), (12, .int .i64 nb), (13, .int .i64 0)] hF (by kernel_rfl) fun a hF => ?_
    refine wpList_nil ?_
    refine hK6 _ _ ?_
    refine wp_seq_k fun K7 hK7 => ?_
    refine wp_seq_k fun K8 hK8 => ?_
    refine wp_region_lit ?_
    refine sB 1 [(41, .int .i64 0)] hF (by kernel_rfl) fun a hF => ?_
    refine wl (eP 42 (v0 := .bool (!decide (0 = 0))) (v := .bool false) hF (by kernel_rfl) (fun _ => by kernel_rfl) (nT (by omega)) fun a hF => ?_)
    refine wpList_nil ?_
    refine hK8 _ _ ?_
    refine cF hF (by kernel_rfl) (by kernel_rfl) ?_
    refine wp_skip ?_
    refine hK7 _ _ ?_
    refine wp_seq_k fun K9 hK9 => ?_
    refine wp_seq_k fun K10 hK10 => ?_
    refine wp_region_lit ?_
    refine sB 1 [(14, .int .i64 0)] hF (by kernel_rfl) fun a hF => ?_
    refine wpList_nil ?_
    refine hK10 _ _ ?_
    refine wp_block ?_
    refine wp_loop_k (G := Nat) (fun gg a w => Fr 93 [(14, some (.int .i64 (gg : Int))), (3, some (.int .u32 lt)), (10, some (.slice AA2 lk.length cc2)), (11, some (.pointer (some ⟨bb4, 0, none⟩))), (12, some (.int .i64 nb))] a ∧ Mem w0.heap.size w0 [(1, some (.ro Ga (gaps.map (Value.int .u16)))), (2, some (.ro Sa (sizes.map (Value.int .u16)))), (4, some (.own (.slice AA2 lk.length cc2) 64 2 lk.length (flat2 lk))), (6, some (.row bb4 23 #[.int .i64 sr, .int .i64 la]))] w ∧ ((gg : Int) ≤ (lk.length : Int))) (fun gg => lk.length - gg) (0) ?_ ?_
    · refine ⟨((((((Fr.nil hF).c hF (i := 12) rfl rfl).c hF (i := 11) rfl rfl).c hF (i := 10) rfl rfl).c hF (i := 3) rfl rfl).c hF (i := 14) rfl (vi (show (0 : Int) = (0 : Int) from by omega))), (hM.sub ((((Sub.nil.c (k := 6) rfl rfl).c (k := 4) rfl rfl).c (k := 2) rfl rfl).c (k := 1) rfl rfl)), (show (0 : Int) ≤ (lk.length : Int) from by omega)⟩
    · intro gg a w hI
      intro K11 hK11
      obtain ⟨i, rfl⟩ : ∃ x, x = gg := ⟨_, rfl⟩
      try dsimp only at hI hK11
      obtain ⟨hF, hM, hz1⟩ := hI
      refine wp_seq_k fun K12 hK12 => ?_
      refine wp_seq_k fun K13 hK13 => ?_
      refine wp_region_lit ?_
      refine sB 4 [(43, .int .i64 (i : Int)), (44, .slice AA2 lk.length cc2), (45, .int .i64 (lk.length : Int)), (46, .bool (decide ((i : Int) < (lk.length : Int))))] hF (by kernel_rfl) fun a hF => ?_
      refine wpList_nil ?_
      refine hK13 _ _ ?_
      by_cases hz2 : (i : Int) < (lk.length : Int)
      · skip
        replace hF := hF.c hF (i := 46) (v := .bool true) rfl (bT hz2)
        refine cT hF (by kernel_rfl) (by kernel_rfl) ?_
        refine wp_skip ?_
        refine hK12 _ _ ?_
        refine wp_seq_k fun K14 hK14 => ?_
        refine wp_block ?_
        refine wp_seq_k fun K15 hK15 => ?_
        refine wp_region_lit ?_
        refine sB 1 [(15, .int .i64 0)] hF (by kernel_rfl) fun a hF => ?_
        refine wpList_nil ?_
        refine hK15 _ _ ?_
        refine wp_seq_k fun K16 hK16 => ?_
        refine wp_region_lit ?_
        refine sB 2 [(49, .int .i64 (i : Int)), (16, .int .i64 (i : Int))] hF (by kernel_rfl) fun a hF => ?_
        refine wpList_nil ?_
        refine hK16 _ _ ?_
        refine wp_block ?_
        refine wp_loop_k (G := Nat) (fun gg a w => Fr 93 [(15, some (.int .i64 (sumN lk gg - sumN lk i))), (16, some (.int .i64 (gg : Int))), (3, some (.int .u32 lt)), (10, some (.slice AA2 lk.length cc2)), (11, some (.pointer (some ⟨bb4, 0, none⟩))), (12, some (.int .i64 nb)), (14, some (.int .i64 (i : Int)))] a ∧ Mem w0.heap.size w0 [(1, some (.ro Ga (gaps.map (Value.int .u16)))), (2, some (.ro Sa (sizes.map (Value.int .u16)))), (4, some (.own (.slice AA2 lk.length cc2) 64 2 lk.length (flat2 lk))), (6, some (.row bb4 23 #[.int .i64 sr, .int .i64 la]))] w ∧ ((gg : Int) ≤ (lk.length : Int)) ∧ ((i : Int) ≤ (gg : Int))) (fun gg => lk.length - gg) (i) ?_ ?_
        · refine ⟨((((((((Fr.nil hF).c hF (i := 14) rfl rfl).c hF (i := 12) rfl rfl).c hF (i := 11) rfl rfl).c hF (i := 10) rfl rfl).c hF (i := 3) rfl rfl).c hF (i := 16) rfl rfl).c hF (i := 15) rfl (vi (show (0 : Int) = sumN lk i - sumN lk i from by omega))), (hM.sub ((((Sub.nil.c (k := 6) rfl rfl).c (k := 4) rfl rfl).c (k := 2) rfl rfl).c (k := 1) rfl rfl)), (show (i : Int) ≤ (lk.length : Int) from by omega), (show (i : Int) ≤ (i : Int) from by omega)⟩
        · intro gg a w hI
          intro K17 hK17
          obtain ⟨j, rfl⟩ : ∃ x, x = gg := ⟨_, rfl⟩
          try dsimp only at hI hK17
          obtain ⟨hF, hM, hz3, hz4⟩ := hI
          refine wp_seq_k fun K18 hK18 => ?_
          refine wp_seq_k fun K19 hK19 => ?_
          refine wp_region_lit ?_
          refine sB 4 [(50, .int .i64 (j : Int)), (51, .slice AA2 lk.length cc2), (52, .int .i64 (lk.length : Int)), (53, .bool (decide ((j : Int) < (lk.length : Int))))] hF (by kernel_rfl) fun a hF => ?_
          refine wpList_nil ?_
          refine hK19 _ _ ?_
          by_cases hz5 : (j : Int) < (lk.length : Int)
          · skip
            replace hF := hF.c hF (i := 53) (v := .bool true) rfl (bT hz5)
            refine cT hF (by kernel_rfl) (by kernel_rfl) ?_
            refine wp_skip ?_
            refine hK18 _ _ ?_
            refine wp_seq_k fun K20 hK20 => ?_
            refine wp_block ?_
            refine wp_seq_k fun K21 hK21 => ?_
            have hs1 := sumN_bd htr j (by omega)
            have hs2 := sumN_bd htr i (by omega)
            have hs3 := sumN_mono htr (i := i) (k := j) (by omega) (by omega)
            have hs4 := at_mono htr (i := i) (k := j) (by omega) (by omega)
            have hs5 := hpr j (by omega)
            have hs6 := hpr i (by omega)
            have hsn : sumN lk (j + 1) = sumN lk j + (pr lk j).2 := rfl
            refine wp_region_lit ?_
            refine sB 3 [(56, .int .i64 (sumN lk j - sumN lk i)), (57, .slice AA2 lk.length cc2), (58, .int .i64 (j : Int))] hF (by kernel_rfl) fun a hF => ?_
            refine wl (eM 59 (v := .pointer (some (ea AA2 (j * 2)))) hF hM (by kernel_rfl) (yld_ix (kd := .i64) (e := 64) (len := lk.length) (cap := cc2) (i := (j : Int)) (size := 2) (A := AA2) hF rfl (by kernel_rfl) (by kernel_rfl) (by kernel_rfl) (by kernel_rfl) (by kernel_rfl) (roO 4 rfl) (by omega) (by omega) (by rw [flat2_length]; omega)) fun a w hF hM => ?_)
            refine sB 1 [(60, .pointer (some (ea AA2 (j * 2 + 1))))] hF (by kernel_rfl) fun a hF => ?_
            refine wl (eM 61 (v := .int .i64 (pr lk j).2) hF hM (by kernel_rfl) (yld_ro1 (A := AA2) (j := j * 2 + 1) hF rfl (by kernel_rfl) (by kernel_rfl) (roO 4 rfl) (by kernel_rfl) (pr_snd (k := j) (by omega) (by omega))) fun a w hF hM => ?_)
            refine wl (eP 62 (v0 := .int .i64 (IntKind.i64.wrap (sumN lk j - sumN lk i + (pr lk j).2))) (v := .int .i64 (sumN lk j - sumN lk i + (pr lk j).2)) hF (by kernel_rfl) (fun _ => by kernel_rfl) (wi (by omega)) fun a hF => ?_)
            refine sB 1 [(15, .int .i64 (sumN lk j - sumN lk i + (pr lk j).2))] hF (by kernel_rfl) fun a hF => ?_
            refine wpList_nil ?_
            refine hK21 _ _ ?_
            refine wp_seq_k fun K22 hK22 => ?_
            refine wp_region_lit ?_
            refine sB 2 [(63, .slice AA2 lk.length cc2), (64, .int .i64 (j : Int))] hF (by kernel_rfl) fun a hF => ?_
            refine wl (eM 65 (v := .pointer (some (ea AA2 (j * 2)))) hF hM (by kernel_rfl) (yld_ix (kd := .i64) (e := 64) (len := lk.length) (cap := cc2) (i := (j : Int)) (size := 2) (A := AA2) hF rfl (by kernel_rfl) (by kernel_rfl) (by kernel_rfl) (by kernel_rfl) (by kernel_rfl) (roO 4 rfl) (by omega) (by omega) (by rw [flat2_length]; omega)) fun a w hF hM => ?_)
            refine sB 1 [(66, .pointer (some (ea AA2 (j * 2))))] hF (by kernel_rfl) fun a hF => ?_
            refine wl (eM 67 (v := .int .i64 (pr lk j).1) hF hM (by kernel_rfl) (yld_ro1 (A := AA2) (j := j * 2) hF rfl (by kernel_rfl) (by kernel_rfl) (roO 4 rfl) (by kernel_rfl) (pr_fst (k := j) (by omega) (by omega))) fun a w hF hM => ?_)
            refine sB 1 [(68, .int .u32 lt)] hF (by kernel_rfl) fun a hF => ?_
            refine wl (eM 69 (v := .int .u32 (lt % 99999)) hF hM (by kernel_rfl) (yld_rem lt 99999 hF rfl (by kernel_rfl) (by kernel_rfl) (by kernel_rfl) (by decide) (Int.tmod_eq_emod_of_nonneg (by omega))) fun a w hF hM => ?_)
            refine wl (eP 70 (v0 := .int .i64 (IntKind.i64.wrap (lt % 99999))) (v := .int .i64 (lt % 99999)) hF (by kernel_rfl) (fun _ => by kernel_rfl) (vi (IntWalk.i64_in _ (by omega))) fun a hF => ?_)
            refine wl (eP 71 (v0 := .int .i64 (IntKind.i64.wrap ((pr lk j).1 + lt % 99999))) (v := .int .i64 ((pr lk j).1 + lt % 99999)) hF (by kernel_rfl) (fun _ => by kernel_rfl) (wi (by omega)) fun a hF => ?_)
            refine sB 1 [(17, .int .i64 ((pr lk j).1 + lt % 99999))] hF (by kernel_rfl) fun a hF => ?_
            refine wpList_nil ?_
            refine hK22 _ _ ?_
            refine wp_seq_k fun K23 hK23 => ?_
            refine rQ hM (by kernel_rfl) (by kernel_rfl) ?_
            refine eQ 72 (v0 := .pointer (some ⟨bb4, 0, none⟩)) (v := .pointer (some ⟨bb4, 0, none⟩)) hF (by kernel_rfl) (fun _ => by kernel_rfl) rfl fun a hF => ?_
            refine eQL 73 6 0 (v := .int .i64 sr) hF (by kernel_rfl) rfl rfl (by kernel_rfl) (by kernel_rfl) fun a hF => ?_
            refine eQ 74 (v0 := .int .i64 ((pr lk j).1 + lt % 99999)) (v := .int .i64 ((pr lk j).1 + lt % 99999)) hF (by kernel_rfl) (fun _ => by kernel_rfl) rfl fun a hF => ?_
            refine eQ 75 (v0 := .slice AA2 lk.length cc2) (v := .slice AA2 lk.length cc2) hF (by kernel_rfl) (fun _ => by kernel_rfl) rfl fun a hF => ?_
            refine eQ 76 (v0 := .int .i64 (i : Int)) (v := .int .i64 (i : Int)) hF (by kernel_rfl) (fun _ => by kernel_rfl) rfl fun a hF => ?_
            refine eQ2 77 (v := .pointer (some (ea AA2 (i * 2)))) hF (by kernel_rfl) (yld_ix (kd := .i64) (e := 64) (len := lk.length) (cap := cc2) (i := (i : Int)) (size := 2) (A := AA2) hF rfl (by kernel_rfl) (by kernel_rfl) (by kernel_rfl) (by kernel_rfl) (by kernel_rfl) (roO 4 rfl) (by omega) (by omega) (by rw [flat2_length]; omega)) fun a hF => ?_
            refine eQ 78 (v0 := .pointer (some (ea AA2 (i * 2)))) (v := .pointer (some (ea AA2 (i * 2)))) hF (by kernel_rfl) (fun _ => by kernel_rfl) rfl fun a hF => ?_
            refine eQ2 79 (v := .int .i64 (pr lk i).1) hF (by kernel_rfl) (yld_ro1 (A := AA2) (j := i * 2) hF rfl (by kernel_rfl) (by kernel_rfl) (roO 4 rfl) (by kernel_rfl) (pr_fst (k := i) (by omega) (by omega))) fun a hF => ?_
            refine eQ 80 (v0 := .int .i64 (IntKind.i64.wrap ((pr lk j).1 + lt % 99999 - (pr lk i).1))) (v := .int .i64 ((pr lk j).1 + lt % 99999 - (pr lk i).1)) hF (by kernel_rfl) (fun _ => by kernel_rfl) (wi (by omega)) fun a hF => ?_
            refine eQ 81 (v0 := .pointer (some ⟨bb4, 1, none⟩)) (v := .pointer (some ⟨bb4, 1, none⟩)) hF (by kernel_rfl) (fun _ => by kernel_rfl) rfl fun a hF => ?_
            refine eQL 82 6 1 (v := .int .i64 la) hF (by kernel_rfl) rfl rfl (by kernel_rfl) (by kernel_rfl) fun a hF => ?_
            refine eQ 83 (v0 := .int .i64 (IntKind.i64.wrap ((pr lk j).1 + lt % 99999 - (pr lk i).1 - la))) (v := .int .i64 ((pr lk j).1 + lt % 99999 - (pr lk i).1 - la)) hF (by kernel_rfl) (fun _ => by kernel_rfl) (wi (by omega)) fun a hF => ?_
            refine eQ 84 (v0 := .int .i64 (if (pr lk j).1 + lt % 99999 - (pr lk i).1 - la > 0 then (pr lk j).1 + lt % 99999 - (pr lk i).1 - la else 0)) (v := .int .i64 (max 0 ((pr lk j).1 + lt % 99999 - (pr lk i).1 - la))) hF (by kernel_rfl) (fun _ => by kernel_rfl) (vi (max_if _ _)) fun a hF => ?_
            have hz6 : 0 ≤ sr * max 0 ((pr lk j).1 + lt % 99999 - (pr lk i).1 - la) ∧ sr * max 0 ((pr lk j).1 + lt % 99999 - (pr lk i).1 - la) ≤ 4332816695296 := mul_bd (1) (2097152) (0) (2066048) (by omega) (by omega) (by omega) (by omega) (by decide)
            refine eQ 85 (v0 := .int .i64 (IntKind.i64.wrap (sr * max 0 ((pr lk j).1 + lt % 99999 - (pr lk i).1 - la)))) (v := .int .i64 (sr * max 0 ((pr lk j).1 + lt % 99999 - (pr lk i).1 - la))) hF (by kernel_rfl) (fun _ => by kernel_rfl) (wi (by omega)) fun a hF => ?_
            refine eQ 18 (v0 := .int .i64 (sr * max 0 ((pr lk j).1 + lt % 99999 - (pr lk i).1 - la))) (v := .int .i64 (sr * max 0 ((pr lk j).1 + lt % 99999 - (pr lk i).1 - la))) hF (by kernel_rfl) (fun _ => by kernel_rfl) rfl fun a hF => ?_
            refine wpQuiet_nil ?_
            intro w hM
            refine hK23 _ _ ?_
            refine wp_seq_k fun K24 hK24 => ?_
            have hw0 := waits_ok (S := sumN lk (j + 1) - sumN lk i) (b := xb) (q := xq) (r := sr) (t := la) (x := (pr lk j).1 - (pr lk i).1) (y := (pr lk j).1 + lt % 99999 - (pr lk i).1) ((cf_int (cf_iff.1 hcf).1).1 hcf i j (by omega) (by omega)) (by omega) (by omega) (by omega) (by omega) (by omega)
            rw [hnb, hsn] at hw0
            have hw1 : (sumN lk j - sumN lk i + (pr lk j).2) * 1048576 - sr * max 0 ((pr lk j).1 + lt % 99999 - (pr lk i).1 - la) ≤ nb * 1048576 := by rw [show (sumN lk j - sumN lk i + (pr lk j).2) = sumN lk j + (pr lk j).2 - sumN lk i from by omega]; exact hw0
            refine wp_region_lit ?_
            refine sB 1 [(86, .int .i64 (sumN lk j - sumN lk i + (pr lk j).2))] hF (by kernel_rfl) fun a hF => ?_
            refine wl (eP 87 (v0 := .int .i64 (IntKind.i64.wrap ((sumN lk j - sumN lk i + (pr lk j).2) * 1048576))) (v := .int .i64 ((sumN lk j - sumN lk i + (pr lk j).2) * 1048576)) hF (by kernel_rfl) (fun _ => by kernel_rfl) (wi (by omega)) fun a hF => ?_)
            refine sB 1 [(88, .int .i64 (sr * max 0 ((pr lk j).1 + lt % 99999 - (pr lk i).1 - la)))] hF (by kernel_rfl) fun a hF => ?_
            refine wl (eP 89 (v0 := .int .i64 (IntKind.i64.wrap ((sumN lk j - sumN lk i + (pr lk j).2) * 1048576 - sr * max 0 ((pr lk j).1 + lt % 99999 - (pr lk i).1 - la)))) (v := .int .i64 ((sumN lk j - sumN lk i + (pr lk j).2) * 1048576 - sr * max 0 ((pr lk j).1 + lt % 99999 - (pr lk i).1 - la))) hF (by kernel_rfl) (fun _ => by kernel_rfl) (wi (by omega)) fun a hF => ?_)
            refine sB 1 [(90, .int .i64 nb)] hF (by kernel_rfl) fun a hF => ?_
            refine wl (eP 91 (v0 := .int .i64 (IntKind.i64.wrap (nb * 1048576))) (v := .int .i64 (nb * 1048576)) hF (by kernel_rfl) (fun _ => by kernel_rfl) (wi (by omega)) fun a hF => ?_)
            refine wl (eP 92 (v0 := .bool (decide (nb * 1048576 < (sumN lk j - sumN lk i + (pr lk j).2) * 1048576 - sr * max 0 ((pr lk j).1 + lt % 99999 - (pr lk i).1 - la)))) (v := .bool false) hF (by kernel_rfl) (fun _ => by kernel_rfl) (bF (by omega)) fun a hF => ?_)
            refine wpList_nil ?_
            refine hK24 _ _ ?_
            refine cF hF (by kernel_rfl) (by kernel_rfl) ?_
            refine wp_skip ?_
            refine hK20 _ _ ?_
            refine wp_region_lit ?_
            refine sB 1 [(54, .int .i64 (j : Int))] hF (by kernel_rfl) fun a hF => ?_
            refine wl (eP 55 (v0 := .int .i64 (IntKind.i64.wrap ((j : Int) + 1))) (v := .int .i64 ((j : Int) + 1)) hF (by kernel_rfl) (fun _ => by kernel_rfl) (wi (by omega)) fun a hF => ?_)
            refine sB 1 [(16, .int .i64 ((j : Int) + 1))] hF (by kernel_rfl) fun a hF => ?_
            refine wpList_nil ?_
            refine hK17 _ _ ⟨(j + 1), ⟨((((((((Fr.nil hF).c hF (i := 14) rfl rfl).c hF (i := 12) rfl rfl).c hF (i := 11) rfl rfl).c hF (i := 10) rfl rfl).c hF (i := 3) rfl rfl).c hF (i := 16) rfl (vi (show ((j : Int) + 1 : Int) = ((j + 1) : Int) from by omega))).c hF (i := 15) rfl (vi (show (sumN lk j - sumN lk i + (pr lk j).2 : Int) = sumN lk (j + 1) - sumN lk i from by omega))), (hM.sub ((((Sub.nil.c (k := 6) rfl rfl).c (k := 4) rfl rfl).c (k := 2) rfl rfl).c (k := 1) rfl rfl)), (show ((j + 1) : Int) ≤ (lk.length : Int) from by omega), (show (i : Int) ≤ ((j + 1) : Int) from by omega)⟩, (show lk.length - (j + 1) < lk.length - j from by omega)⟩
          · skip
            replace hF := hF.c hF (i := 53) (v := .bool false) rfl (bF hz5)
            refine cF hF (by kernel_rfl) (by kernel_rfl) ?_
            refine wp_exit ?_
            refine hK14 _ _ ?_
            refine wp_region_lit ?_
            refine sB 1 [(47, .int .i64 (i : Int))] hF (by kernel_rfl) fun a hF => ?_
            refine wl (eP 48 (v0 := .int .i64 (IntKind.i64.wrap ((i : Int) + 1))) (v := .int .i64 ((i : Int) + 1)) hF (by kernel_rfl) (fun _ => by kernel_rfl) (wi (by omega)) fun a hF => ?_)
            refine sB 1 [(14, .int .i64 ((i : Int) + 1))] hF (by kernel_rfl) fun a hF => ?_
            refine wpList_nil ?_
            refine hK11 _ _ ⟨(i + 1), ⟨((((((Fr.nil hF).c hF (i := 12) rfl rfl).c hF (i := 11) rfl rfl).c hF (i := 10) rfl rfl).c hF (i := 3) rfl rfl).c hF (i := 14) rfl (vi (show ((i : Int) + 1 : Int) = ((i + 1) : Int) from by omega))), (hM.sub ((((Sub.nil.c (k := 6) rfl rfl).c (k := 4) rfl rfl).c (k := 2) rfl rfl).c (k := 1) rfl rfl)), (show ((i + 1) : Int) ≤ (lk.length : Int) from by omega)⟩, (show lk.length - (i + 1) < lk.length - i from by omega)⟩
      · skip
        replace hF := hF.c hF (i := 46) (v := .bool false) rfl (bF hz2)
        refine cF hF (by kernel_rfl) (by kernel_rfl) ?_
        refine wp_exit ?_
        refine hK9 _ _ ?_
        refine wp_seq_k fun K25 hK25 => ?_
        refine wp_region_lit ?_
        refine sB 1 [(8, .bool true)] hF (by kernel_rfl) fun a hF => ?_
        refine wpList_nil ?_
        refine hK25 _ _ ?_
        refine wp_ret ?_
        refine hR0 _ _ ?_
        refine ret_of hF hM (.tmp rfl (.nil)) ?_
        exact ⟨rfl, hM.bel⟩

end Go.Proofs.Ytoighcbbaacnaaa
