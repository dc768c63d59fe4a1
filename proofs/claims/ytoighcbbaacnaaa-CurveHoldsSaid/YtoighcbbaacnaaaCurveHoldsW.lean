/-
  The walk of CurveHolds.
-/
import Derived.Test.YtoighcbbaacnaaaCurveK
namespace Go.Proofs.Ytoighcbbaacnaaa
open Go.RowKit
set_option linter.unusedVariables false
set_option linter.unusedSimpArgs false

theorem two_all {p : Int × Int → Prop} {x y : Int × Int} (h1 : p x) (h2 : p y) : ∀ j, j < [x, y].length → p (pr [x, y] j) := fun j hj => by
  match j, hj with
  | 0, _ => exact h1
  | 1, _ => exact h2
theorem two_mem {xb xq ob oq r : Int} (h : oq ≤ r) : cq (ob * 1048576) r ∈ dAll r [(xb, xq), (ob, oq)] 2 := by
  rw [show (2 : Nat) = 1 + 1 from rfl, dAll_take (by show ¬ r < oq; omega)]
  exact List.mem_append_right _ (List.mem_cons_self ..)
set_option maxRecDepth 100000 in
set_option maxHeartbeats 8000000 in
theorem curveHolds_walk (bu ra : Int) (Ga : Option Addr) (gaps : List Int) (cg : Nat) (Sa : Option Addr) (sizes : List Int) (cs : Nat) (bt rt mo la : Int) (w0 : World) (hGa : Ro w0 Ga (gaps.map (Value.int .u16))) (hSa : Ro w0 Sa (sizes.map (Value.int .u16))) (hg : All16 gaps) (hs : All16 sizes) (hmg : gaps.length ≤ 9223372036854775807) (hms : sizes.length ≤ 9223372036854775807) (h : 0 ≤ bu ∧ bu < 4294967296 ∧ 0 ≤ ra ∧ ra < 4294967296 ∧ 0 ≤ bt ∧ bt ≤ 65535 ∧ 0 ≤ rt ∧ rt < 4294967296 ∧ 0 ≤ mo ∧ mo < 4294967296 ∧ 0 ≤ la ∧ la ≤ 65535) :
    Calls Try.prog 11 #[.agg #[.int .u32 bu, .int .u32 ra, .slice Ga gaps.length cg, .slice Sa sizes.length cs], .int .u16 bt, .int .u32 rt, .int .u32 mo, .int .u16 la] w0 (Ret w0 (.bool true)) := by
  obtain ⟨xb, hxb⟩ : ∃ z : Int, 1 + bu % 1048576 = z := ⟨_, rfl⟩
  obtain ⟨xq, hxq⟩ : ∃ z : Int, 1 + ra % 2097152 = z := ⟨_, rfl⟩
  have hbk : bkE xb xq = 0 := by unfold bkE; rw [if_pos]; omega
  obtain ⟨ob, hob1⟩ : ∃ z : Int, 1 + bt = z := ⟨_, rfl⟩
  obtain ⟨oq, hoq1⟩ : ∃ z : Int, 1 + rt % 2097152 = z := ⟨_, rfl⟩
  have hob : bkE ob oq = 0 := by unfold bkE; rw [if_pos]; omega
  obtain ⟨mi, hmi⟩ : ∃ z : Int, min xq oq = z := ⟨_, rfl⟩
  obtain ⟨sr, hsr⟩ : ∃ z : Int, min 2097152 (mi + mo % 262144) = z := ⟨_, rfl⟩
  have v1 : svE sr la = 0 := svE_yes (by omega)
  have k2 : oq ≤ sr → csE ob oq sr la = 0 := fun q => cs_0 hob v1 (by omega)
  have k3 : ¬ oq ≤ sr → ¬ csE ob oq sr la = 0 := fun q => by rw [cs_141 hob v1 (by omega)]; decide
  obtain ⟨lk, hlk⟩ : ∃ z : List (Int × Int), cfTr ob oq (cfDr bu ra gaps sizes) = z := ⟨_, rfl⟩
  have hcD : cfB xb xq (cfDr bu ra gaps sizes) = true := by rw [← hxb, ← hxq]; exact cfTr_cf (by unfold bkE; omega) (dr_trE hg hs)
  have htD : trE (cfDr bu ra gaps sizes) = 0 := ckE_tr (cf_iff.1 hcD).1
  have hcA : cfB xb xq lk = true := by rw [← hlk]; exact cfTr_part hbk hcD
  have hcB : cfB ob oq lk = true := by rw [← hlk]; exact cfTr_cf hob htD
  have htr : trE lk = 0 := ckE_tr (cf_iff.1 hcA).1
  have hlD : (cfDr bu ra gaps sizes).length ≤ 30 := Nat.le_trans (cfTr_le (by unfold bkE; omega) (dr_trE hg hs)) (dr_le _ _)
  have hle : lk.length ≤ 30 := by rw [← hlk]; exact Nat.le_trans (cfTr_le hob htD) hlD
  have hprD : ∀ k, k < (cfDr bu ra gaps sizes).length → 0 ≤ (pr (cfDr bu ra gaps sizes) k).1 ∧ (pr (cfDr bu ra gaps sizes) k).1 ≤ 1966050 := fun k hk => cfTr_pr (p := fun x => 0 ≤ x.1 ∧ x.1 ≤ 1966050) (by unfold bkE; omega) (dr_trE hg hs) (fun j hj => ⟨(dr_pr hg hs hj).1, (dr_pr hg hs hj).2.1⟩) hk
  have hpr : ∀ k, k < lk.length → 0 ≤ (pr lk k).1 ∧ (pr lk k).1 ≤ 1966050 := by rw [← hlk]; exact fun k hk => cfTr_pr (p := fun x => 0 ≤ x.1 ∧ x.1 ≤ 1966050) hob htD hprD hk
  have hba : bkAll [(xb, xq), (ob, oq)] = true := bkAll_yes (two_all (p := fun x => bkE x.1 x.2 = 0) hbk hob)
  have hfo : (clF (dAll sr [(xb, xq), (ob, oq)] 2)).2 = true := by
    rcases (show xq ≤ sr ∨ oq ≤ sr by omega) with z | z
    · exact cl_some (l := [(xb, xq), (ob, oq)]) (j := 0) (by simp) (show ¬ sr < xq by omega)
    · exact cl_some (l := [(xb, xq), (ob, oq)]) (j := 1) (by simp) (show ¬ sr < oq by omega)
  have d2 := dl_0 (r := sr) (t := la) (l := [(xb, xq), (ob, oq)]) (by simp) (by simp) hba v1 hfo
  have b2 := cl_bd (r := sr) (l := [(xb, xq), (ob, oq)]) (by omega) hba
  have hal : ∀ j, j < lk.length → la + cq (enN sr lk (j + 1)) sr ≤ (pr lk j).1 + (la + (clF (dAll sr [(xb, xq), (ob, oq)] 2)).1) := fun j hj => hold_all (bl := [(xb, xq), (ob, oq)]) (by omega) htr (two_all (p := fun x => cfB x.1 x.2 lk = true) hcA hcB) hfo hj
  have hle2 : oq ≤ sr → (clF (dAll sr [(xb, xq), (ob, oq)] 2)).1 ≤ cq (ob * 1048576) sr := fun q => clF_le (two_mem q)
  have b1 := cq_in (n := ob * 1048576) (d := sr) (B := 1099511627776) (by omega) (by omega) (by omega)
  obtain ⟨cc, hcc⟩ : ∃ z : Int, (clF (dAll sr [(xb, xq), (ob, oq)] 2)).1 = z := ⟨_, rfl⟩
  obtain ⟨c1, hc1⟩ : ∃ z : Int, cq (ob * 1048576) sr = z := ⟨_, rfl⟩
  rw [hcc] at hle2 hal
  rw [hc1] at hle2 b1
  have b3 : 0 ≤ cc ∧ cc ≤ 1099511627776 := by rw [← hcc]; exact b2
  obtain ⟨og, hog⟩ : ∃ z : List Int, drL sr la lk lk.length = z := ⟨_, rfl⟩
  have hol : og.length = lk.length := by rw [← hog]; exact drL_len _ _ _ _
  have hou : ∀ j, j < lk.length → nt og j ≤ (pr lk j).1 + (la + cc) := fun j hj => by rw [← hog, drL_at hj]; exact hal j hj
  have hmo : ∀ j, 0 < j → j < lk.length → nt og (j - 1) ≤ nt og j := fun j h0 hj => by
    rw [← hog, drL_at hj, drL_at (show j - 1 < lk.length by omega), show j - 1 + 1 = j by omega]
    have := cq_mono (d := sr) (by omega) (enN_mono (r := sr) htr hj)
    omega
  refine enterK 134 Try.func11 rfl rfl rfl ?_
  intro a hF Q0 hR0 hN0
  have hM := Mem.start w0
  replace hM := hM.addOld 1 hGa (Nat.le_refl _)
  replace hM := hM.addOld 2 hSa (Nat.le_refl _)
  refine wp_seq_k fun K1 hK1 => ?_
  refine wp_region_lit ?_
  refine wl (eN 5 3 (t := 42) (fun b => .pointer (some ⟨b, 0, none⟩)) #[.int .u32 bu, .int .u32 ra, .slice Ga gaps.length cg, .slice Sa sizes.length cs] hF hM (by kernel_rfl) (fun _ => by kernel_rfl) fun bb1 a w hF hM => ?_)
  refine sB 1 [(10, .bool false)] hF (by kernel_rfl) fun a hF => ?_
  refine wpList_nil ?_
  refine hK1 _ _ ?_
  refine wp_seq_k fun K2 hK2 => ?_
  refine wp_seq_k fun K3 hK3 => ?_
  refine wp_region_lit ?_
  refine wl (eM 22 (v := .bool true) hF hM (by kernel_rfl) (yld_call (f := 18) (args := #[]) hF (by kernel_rfl) (fun _ => by kernel_rfl) (fun w hM => works4_w w)) fun a w hF hM => ?_)
  refine sB 1 [(23, .bool false)] hF (by kernel_rfl) fun a hF => ?_
  refine wpList_nil ?_
  refine hK3 _ _ ?_
  refine cF hF (by kernel_rfl) (by kernel_rfl) ?_
  refine wp_skip ?_
  refine hK2 _ _ ?_
  refine wp_seq_k fun K4 hK4 => ?_
  refine wp_region_lit ?_
  refine wl (eL 24 3 0 (v := .agg #[.int .u32 bu, .int .u32 ra, .slice Ga gaps.length cg, .slice Sa sizes.length cs]) hF hM (by kernel_rfl) rfl rfl (by kernel_rfl) (by kernel_rfl) fun a w hF hM => ?_)
  refine wl (eM 25 (v := .agg #[.int .i64 xb, .int .i64 xq]) hF hM (by kernel_rfl) (yld_call (f := 19) (args := #[.agg #[.int .u32 bu, .int .u32 ra, .slice Ga gaps.length cg, .slice Sa sizes.length cs]]) hF (by kernel_rfl) (fun _ => by kernel_rfl) (fun w hM => agg_to hxb hxq (draftBucket_w bu ra (.slice Ga gaps.length cg) (.slice Sa sizes.length cs) w (by omega)))) fun a w hF hM => ?_)
  refine sB 1 [(26, .int .u16 bt)] hF (by kernel_rfl) fun a hF => ?_
  refine wl (eP 27 (v0 := .int .i64 (IntKind.i64.wrap bt)) (v := .int .i64 bt) hF (by kernel_rfl) (fun _ => by kernel_rfl) (vi (IntWalk.i64_in _ (by omega))) fun a hF => ?_)
  refine wl (eP 28 (v0 := .int .i64 (IntKind.i64.wrap (1 + bt))) (v := .int .i64 ob) hF (by kernel_rfl) (fun _ => by kernel_rfl) (vi ((w64 (by omega)).trans hob1)) fun a hF => ?_)
  refine sB 1 [(29, .int .u32 rt)] hF (by kernel_rfl) fun a hF => ?_
  refine wl (eM 30 (v := .int .u32 (rt % 2097152)) hF hM (by kernel_rfl) (yld_rem rt 2097152 hF rfl (by kernel_rfl) (by kernel_rfl) (by kernel_rfl) (by decide) (Int.tmod_eq_emod_of_nonneg (by omega))) fun a w hF hM => ?_)
  refine wl (eP 31 (v0 := .int .i64 (IntKind.i64.wrap (rt % 2097152))) (v := .int .i64 (rt % 2097152)) hF (by kernel_rfl) (fun _ => by kernel_rfl) (vi (IntWalk.i64_in _ (by omega))) fun a hF => ?_)
  refine wl (eP 32 (v0 := .int .i64 (IntKind.i64.wrap (1 + rt % 2097152))) (v := .int .i64 oq) hF (by kernel_rfl) (fun _ => by kernel_rfl) (vi ((w64 (by omega)).trans hoq1)) fun a hF => ?_)
  refine sB 1 [(33, .agg #[.int .i64 ob, .int .i64 oq])] hF (by kernel_rfl) fun a hF => ?_
  refine wl (eN 11 4 (t := 39) (fun b => .pointer (some ⟨b, 0, none⟩)) #[.int .i64 0, .int .i64 0] hF hM (by kernel_rfl) (fun _ => by kernel_rfl) fun bb2 a w hF hM => ?_)
  refine wl (eN 12 5 (t := 39) (fun b => .pointer (some ⟨b, 0, none⟩)) #[.int .i64 0, .int .i64 0] hF hM (by kernel_rfl) (fun _ => by kernel_rfl) fun bb3 a w hF hM => ?_)
  refine wl (sStore (i := 4) (off := 0) (cs' := #[.int .i64 xb, .int .i64 xq]) hF hM (by kernel_rfl) rfl rfl (by kernel_rfl) (by kernel_rfl) rfl (by kernel_rfl) fun w hM => ?_)
  refine wl (sStore (i := 5) (off := 0) (cs' := #[.int .i64 ob, .int .i64 oq]) hF hM (by kernel_rfl) rfl rfl (by kernel_rfl) (by kernel_rfl) rfl (by kernel_rfl) fun w hM => ?_)
  refine wpList_nil ?_
  refine hK4 _ _ ?_
  refine wp_seq_k fun K5 hK5 => ?_
  refine wp_region_lit ?_
  refine sB 1 [(34, .pointer (some ⟨bb2, 1, none⟩))] hF (by kernel_rfl) fun a hF => ?_
  refine wl (eL 35 4 1 (v := .int .i64 xq) hF hM (by kernel_rfl) rfl rfl (by kernel_rfl) (by kernel_rfl) fun a w hF hM => ?_)
  refine sB 1 [(36, .pointer (some ⟨bb3, 1, none⟩))] hF (by kernel_rfl) fun a hF => ?_
  refine wl (eL 37 5 1 (v := .int .i64 oq) hF hM (by kernel_rfl) rfl rfl (by kernel_rfl) (by kernel_rfl) fun a w hF hM => ?_)
  refine wl (eP 38 (v0 := .int .i64 (if oq < xq then oq else xq)) (v := .int .i64 mi) hF (by kernel_rfl) (fun _ => by kernel_rfl) (vi (by rw [← hmi]; exact (min_if _ _))) fun a hF => ?_)
  refine sB 1 [(39, .int .u32 mo)] hF (by kernel_rfl) fun a hF => ?_
  refine wl (eM 40 (v := .int .u32 (mo % 262144)) hF hM (by kernel_rfl) (yld_rem mo 262144 hF rfl (by kernel_rfl) (by kernel_rfl) (by kernel_rfl) (by decide) (Int.tmod_eq_emod_of_nonneg (by omega))) fun a w hF hM => ?_)
  refine wl (eP 41 (v0 := .int .i64 (IntKind.i64.wrap (mo % 262144))) (v := .int .i64 (mo % 262144)) hF (by kernel_rfl) (fun _ => by kernel_rfl) (vi (IntWalk.i64_in _ (by omega))) fun a hF => ?_)
  refine wl (eP 42 (v0 := .int .i64 (IntKind.i64.wrap (mi + mo % 262144))) (v := .int .i64 (mi + mo % 262144)) hF (by kernel_rfl) (fun _ => by kernel_rfl) (wi (by omega)) fun a hF => ?_)
  refine wl (eP 43 (v0 := .int .i64 (if mi + mo % 262144 < 2097152 then mi + mo % 262144 else 2097152)) (v := .int .i64 sr) hF (by kernel_rfl) (fun _ => by kernel_rfl) (vi (by rw [← hsr]; exact (min_if _ _))) fun a hF => ?_)
  refine sB 1 [(44, .int .u16 la)] hF (by kernel_rfl) fun a hF => ?_
  refine wl (eP 45 (v0 := .int .i64 (IntKind.i64.wrap la)) (v := .int .i64 la) hF (by kernel_rfl) (fun _ => by kernel_rfl) (vi (IntWalk.i64_in _ (by omega))) fun a hF => ?_)
  refine sB 1 [(46, .agg #[.int .i64 sr, .int .i64 la])] hF (by kernel_rfl) fun a hF => ?_
  refine wl (eN 13 6 (t := 23) (fun b => .pointer (some ⟨b, 0, none⟩)) #[.int .i64 0, .int .i64 0] hF hM (by kernel_rfl) (fun _ => by kernel_rfl) fun bb4 a w hF hM => ?_)
  refine wl (sStore (i := 6) (off := 0) (cs' := #[.int .i64 sr, .int .i64 la]) hF hM (by kernel_rfl) rfl rfl (by kernel_rfl) (by kernel_rfl) rfl (by kernel_rfl) fun w hM => ?_)
  refine wpList_nil ?_
  refine hK5 _ _ ?_
  refine wp_seq_k fun K6 hK6 => ?_
  refine wp_region_lit ?_
  refine wl (eL 47 3 0 (v := .agg #[.int .u32 bu, .int .u32 ra, .slice Ga gaps.length cg, .slice Sa sizes.length cs]) hF hM (by kernel_rfl) rfl rfl (by kernel_rfl) (by kernel_rfl) fun a w hF hM => ?_)
  refine wl (eL 48 5 0 (v := .agg #[.int .i64 ob, .int .i64 oq]) hF hM (by kernel_rfl) rfl rfl (by kernel_rfl) (by kernel_rfl) fun a w hF hM => ?_)
  refine wl (sOwn 7 (f := 32) (args := #[.agg #[.int .u32 bu, .int .u32 ra, .slice Ga gaps.length cg, .slice Sa sizes.length cs], .agg #[.int .i64 ob, .int .i64 oq]]) (mk := fun v => v) (e := 64) (size := 2) (m := lk.length) (xs := (flat2 lk)) hF hM (by kernel_rfl) rfl (by decide) (by kernel_rfl) (fun _ => by kernel_rfl) (by rw [← hlk]; exact lconforming_w bu ra Ga gaps cg Sa sizes cs ob oq w (hM.ok 1 _ rfl) (hM.ok 2 _ rfl) hg hs (by omega) (by omega) (by omega) hob) fun AA5 cc5 a w hF hM => ?_)
  refine sB 1 [(14, .slice AA5 lk.length cc5)] hF (by kernel_rfl) fun a hF => ?_
  refine wpList_nil ?_
  refine hK6 _ _ ?_
  refine wp_seq_k fun K7 hK7 => ?_
  refine wp_region_lit ?_
  refine sB 1 [(51, .slice AA5 lk.length cc5)] hF (by kernel_rfl) fun a hF => ?_
  refine wl (eL 52 6 0 (v := .agg #[.int .i64 sr, .int .i64 la]) hF hM (by kernel_rfl) rfl rfl (by kernel_rfl) (by kernel_rfl) fun a w hF hM => ?_)
  refine wl (sOwn 8 (f := 27) (args := #[.slice AA5 lk.length cc5, .agg #[.int .i64 sr, .int .i64 la]]) (mk := fun v => .tuple #[v, .int .i64 0]) (e := 3) (size := 1) (m := lk.length) (xs := (og.map (Value.int .i64))) hF hM (by kernel_rfl) rfl (by decide) (by kernel_rfl) (fun _ => by kernel_rfl) (drain_lit hog (drain_ok sr la AA5 lk _ w (ro_of_own (hM.ok 7 _ rfl)) htr v1)) fun AA6 cc6 a w hF hM => ?_)
  refine sB 5 [(50, .tuple #[.slice AA6 lk.length cc6, .int .i64 0]), (54, .slice AA6 lk.length cc6), (55, .int .i64 0), (15, .slice AA6 lk.length cc6), (16, .int .i64 0)] hF (by kernel_rfl) fun a hF => ?_
  refine wpList_nil ?_
  refine hK7 _ _ ?_
  refine wp_seq_k fun K8 hK8 => ?_
  refine wp_region_lit ?_
  refine wl (eL 57 4 0 (v := .agg #[.int .i64 xb, .int .i64 xq]) hF hM (by kernel_rfl) rfl rfl (by kernel_rfl) (by kernel_rfl) fun a w hF hM => ?_)
  refine wl (eL 58 5 0 (v := .agg #[.int .i64 ob, .int .i64 oq]) hF hM (by kernel_rfl) rfl rfl (by kernel_rfl) (by kernel_rfl) fun a w hF hM => ?_)
  refine wl (eN 59 9 (t := 39) (fun b => .slice (some ⟨b, 0, none⟩) 2 2) #[.int .i64 xb, .int .i64 xq, .int .i64 ob, .int .i64 oq] hF hM (by kernel_rfl) (fun _ => by kernel_rfl) fun bb7 a w hF hM => ?_)
  refine wl (eL 60 6 0 (v := .agg #[.int .i64 sr, .int .i64 la]) hF hM (by kernel_rfl) rfl rfl (by kernel_rfl) (by kernel_rfl) fun a w hF hM => ?_)
  refine wl (eM 61 (v := .tuple #[.int .i64 (la + cc), .int .i64 0]) hF hM (by kernel_rfl) (yld_call (f := 20) (args := #[.slice (some ⟨bb7, 0, none⟩) 2 2, .agg #[.int .i64 sr, .int .i64 la]]) hF (by kernel_rfl) (fun _ => by kernel_rfl) (fun w hM => dl_to ⟨d2.1, d2.2.trans (congrArg (fun z => la + z) hcc)⟩ (delay_w sr la (some ⟨bb7, 0, none⟩) [(xb, xq), (ob, oq)] _ w (hM.roRow (k := 9) rfl)))) fun a w hF hM => ?_)
  refine sB 5 [(56, .tuple #[.int .i64 (la + cc), .int .i64 0]), (62, .int .i64 (la + cc)), (63, .int .i64 0), (17, .int .i64 (la + cc)), (18, .int .i64 0)] hF (by kernel_rfl) fun a hF => ?_
  refine wpList_nil ?_
  refine hK8 _ _ ?_
  refine wp_seq_k fun K9 hK9 => ?_
  by_cases hz1 : oq ≤ sr
  · skip
    refine wp_region_lit ?_
    refine wl (eL 65 5 0 (v := .agg #[.int .i64 ob, .int .i64 oq]) hF hM (by kernel_rfl) rfl rfl (by kernel_rfl) (by kernel_rfl) fun a w hF hM => ?_)
    refine wl (eN 66 11 (t := 39) (fun b => .slice (some ⟨b, 0, none⟩) 1 1) #[.int .i64 ob, .int .i64 oq] hF hM (by kernel_rfl) (fun _ => by kernel_rfl) fun bb9 a w hF hM => ?_)
    refine wl (eL 67 6 0 (v := .agg #[.int .i64 sr, .int .i64 la]) hF hM (by kernel_rfl) rfl rfl (by kernel_rfl) (by kernel_rfl) fun a w hF hM => ?_)
    have hcl := hle2 hz1
    refine wl (eM 68 (v := .tuple #[.int .i64 (la + c1), .int .i64 0]) hF hM (by kernel_rfl) (yld_call (f := 20) (args := #[.slice (some ⟨bb9, 0, none⟩) 1 1, .agg #[.int .i64 sr, .int .i64 la]]) hF (by kernel_rfl) (fun _ => by kernel_rfl) (fun w hM => dl_to ⟨(dl_one (k2 hz1)).1, (dl_one (k2 hz1)).2.trans (by rw [hc1])⟩ (delay_w sr la (some ⟨bb9, 0, none⟩) [(ob, oq)] _ w (hM.roRow (k := 11) rfl)))) fun a w hF hM => ?_)
    refine sB 5 [(64, .tuple #[.int .i64 (la + c1), .int .i64 0]), (69, .int .i64 (la + c1)), (70, .int .i64 0), (19, .int .i64 (la + c1)), (20, .int .i64 0)] hF (by kernel_rfl) fun a hF => ?_
    refine wpList_nil ?_
    refine hK9 _ _ ?_
    refine wp_seq_k fun K10 hK10 => ?_
    refine wp_seq_k fun K11 hK11 => ?_
    refine wp_region_lit ?_
    refine sB 1 [(71, .int .i64 0)] hF (by kernel_rfl) fun a hF => ?_
    refine wl (eP 72 (v0 := .bool (!decide (0 = 0))) (v := .bool false) hF (by kernel_rfl) (fun _ => by kernel_rfl) (nT (by omega)) fun a hF => ?_)
    refine sB 2 [(73, .bool false), (74, .int .i64 0)] hF (by kernel_rfl) fun a hF => ?_
    refine wl (eP 75 (v0 := .bool (!decide (0 = 0))) (v := .bool false) hF (by kernel_rfl) (fun _ => by kernel_rfl) (nT (by omega)) fun a hF => ?_)
    refine sB 6 [(76, .bool false), (77, .bool false), (78, .slice AA6 lk.length cc6), (79, .int .i64 (lk.length : Int)), (80, .slice AA5 lk.length cc5), (81, .int .i64 (lk.length : Int))] hF (by kernel_rfl) fun a hF => ?_
    refine wl (eP 82 (v0 := .bool (!decide ((lk.length : Int) = (lk.length : Int)))) (v := .bool false) hF (by kernel_rfl) (fun _ => by kernel_rfl) (nT (by omega)) fun a hF => ?_)
    refine sB 3 [(83, .bool false), (84, .bool false), (85, .pointer (some ⟨bb3, 1, none⟩))] hF (by kernel_rfl) fun a hF => ?_
    refine wl (eL 86 5 1 (v := .int .i64 oq) hF hM (by kernel_rfl) rfl rfl (by kernel_rfl) (by kernel_rfl) fun a w hF hM => ?_)
    refine sB 1 [(87, .pointer (some ⟨bb4, 0, none⟩))] hF (by kernel_rfl) fun a hF => ?_
    refine wl (eL 88 6 0 (v := .int .i64 sr) hF hM (by kernel_rfl) rfl rfl (by kernel_rfl) (by kernel_rfl) fun a w hF hM => ?_)
    refine wl (eP 89 (v0 := .bool (decide (oq ≤ sr))) (v := .bool true) hF (by kernel_rfl) (fun _ => by kernel_rfl) (bT hz1) fun a hF => ?_)
    refine sB 2 [(90, .bool true), (91, .int .i64 0)] hF (by kernel_rfl) fun a hF => ?_
    refine wl (eP 92 (v0 := .bool (!decide (0 = 0))) (v := .bool false) hF (by kernel_rfl) (fun _ => by kernel_rfl) (nT (by omega)) fun a hF => ?_)
    refine sB 3 [(93, .bool false), (94, .int .i64 (la + cc)), (95, .int .i64 (la + c1))] hF (by kernel_rfl) fun a hF => ?_
    refine wl (eP 96 (v0 := .bool (decide (la + c1 < la + cc))) (v := .bool false) hF (by kernel_rfl) (fun _ => by kernel_rfl) (bF (by omega)) fun a hF => ?_)
    refine sB 3 [(97, .bool false), (98, .bool false), (99, .bool false)] hF (by kernel_rfl) fun a hF => ?_
    refine wpList_nil ?_
    refine hK11 _ _ ?_
    refine cF hF (by kernel_rfl) (by kernel_rfl) ?_
    refine wp_skip ?_
    refine hK10 _ _ ?_
    refine wp_seq_k fun K12 hK12 => ?_
    refine wp_seq_k fun K13 hK13 => ?_
    refine wp_region_lit ?_
    refine sB 1 [(21, .int .i64 0)] hF (by kernel_rfl) fun a hF => ?_
    refine wpList_nil ?_
    refine hK13 _ _ ?_
    refine wp_block ?_
    refine wp_loop_k (G := Nat) (fun gg a w => Fr 134 [(21, some (.int .i64 (gg : Int))), (14, some (.slice AA5 lk.length cc5)), (15, some (.slice AA6 lk.length cc6)), (17, some (.int .i64 (la + cc)))] a ∧ Mem w0.heap.size w0 [(1, some (.ro Ga (gaps.map (Value.int .u16)))), (2, some (.ro Sa (sizes.map (Value.int .u16)))), (7, some (.own (.slice AA5 lk.length cc5) 64 2 lk.length (flat2 lk))), (8, some (.own (.slice AA6 lk.length cc6) 3 1 lk.length (og.map (Value.int .i64))))] w ∧ ((gg : Int) ≤ (lk.length : Int))) (fun gg => lk.length - gg) (0) ?_ ?_
    · refine ⟨(((((Fr.nil hF).c hF (i := 17) rfl rfl).c hF (i := 15) rfl rfl).c hF (i := 14) rfl rfl).c hF (i := 21) rfl (vi (show (0 : Int) = (0 : Int) from by omega))), (hM.sub ((((Sub.nil.c (k := 8) rfl rfl).c (k := 7) rfl rfl).c (k := 2) rfl rfl).c (k := 1) rfl rfl)), (show (0 : Int) ≤ (lk.length : Int) from by omega)⟩
    · intro gg a w hI
      intro K14 hK14
      obtain ⟨k, rfl⟩ : ∃ x, x = gg := ⟨_, rfl⟩
      try dsimp only at hI hK14
      obtain ⟨hF, hM, hz2⟩ := hI
      refine wp_seq_k fun K15 hK15 => ?_
      refine wp_seq_k fun K16 hK16 => ?_
      refine wp_region_lit ?_
      refine sB 4 [(100, .int .i64 (k : Int)), (101, .slice AA5 lk.length cc5), (102, .int .i64 (lk.length : Int)), (103, .bool (decide ((k : Int) < (lk.length : Int))))] hF (by kernel_rfl) fun a hF => ?_
      refine wpList_nil ?_
      refine hK16 _ _ ?_
      by_cases hz3 : (k : Int) < (lk.length : Int)
      · skip
        replace hF := hF.c hF (i := 103) (v := .bool true) rfl (bT hz3)
        refine cT hF (by kernel_rfl) (by kernel_rfl) ?_
        refine wp_skip ?_
        refine hK15 _ _ ?_
        refine wp_seq_k fun K17 hK17 => ?_
        refine wp_block ?_
        refine wp_seq_k fun K18 hK18 => ?_
        by_cases hz4 : 0 < (k : Int)
        · skip
          have ho1 := hou k (by omega)
          have hp1 := hpr k (by omega)
          have ho2 := hmo k (by omega) (by omega)
          refine rQ hM (by kernel_rfl) (by kernel_rfl) ?_
          refine eQ 106 (v0 := .slice AA6 lk.length cc6) (v := .slice AA6 lk.length cc6) hF (by kernel_rfl) (fun _ => by kernel_rfl) rfl fun a hF => ?_
          refine eQ 107 (v0 := .int .i64 (k : Int)) (v := .int .i64 (k : Int)) hF (by kernel_rfl) (fun _ => by kernel_rfl) rfl fun a hF => ?_
          refine eQ2 108 (v := .pointer (some (ea AA6 (k)))) hF (by kernel_rfl) (yld_ix (kd := .i64) (e := 3) (len := lk.length) (cap := cc6) (i := (k : Int)) (size := 1) (A := AA6) hF rfl (by kernel_rfl) (by kernel_rfl) (by kernel_rfl) (by kernel_rfl) (by kernel_rfl) (roO 8 rfl) (by omega) (by omega) (by rw [List.length_map]; omega)) fun a hF => ?_
          refine eQ2 109 (v := .int .i64 (nt og k)) hF (by kernel_rfl) (yld_ro1 (A := AA6) (j := k) hF rfl (by kernel_rfl) (by kernel_rfl) (roO 8 rfl) (by kernel_rfl) (nt_at (by omega))) fun a hF => ?_
          refine eQ 110 (v0 := .slice AA5 lk.length cc5) (v := .slice AA5 lk.length cc5) hF (by kernel_rfl) (fun _ => by kernel_rfl) rfl fun a hF => ?_
          refine eQ 111 (v0 := .int .i64 (k : Int)) (v := .int .i64 (k : Int)) hF (by kernel_rfl) (fun _ => by kernel_rfl) rfl fun a hF => ?_
          refine eQ2 112 (v := .pointer (some (ea AA5 (k * 2)))) hF (by kernel_rfl) (yld_ix (kd := .i64) (e := 64) (len := lk.length) (cap := cc5) (i := (k : Int)) (size := 2) (A := AA5) hF rfl (by kernel_rfl) (by kernel_rfl) (by kernel_rfl) (by kernel_rfl) (by kernel_rfl) (roO 7 rfl) (by omega) (by omega) (by rw [flat2_length]; omega)) fun a hF => ?_
          refine eQ 113 (v0 := .pointer (some (ea AA5 (k * 2)))) (v := .pointer (some (ea AA5 (k * 2)))) hF (by kernel_rfl) (fun _ => by kernel_rfl) rfl fun a hF => ?_
          refine eQ2 114 (v := .int .i64 (pr lk k).1) hF (by kernel_rfl) (yld_ro1 (A := AA5) (j := k * 2) hF rfl (by kernel_rfl) (by kernel_rfl) (roO 7 rfl) (by kernel_rfl) (pr_fst (k := k) (by omega) (by omega))) fun a hF => ?_
          refine eQ 115 (v0 := .int .i64 (la + cc)) (v := .int .i64 (la + cc)) hF (by kernel_rfl) (fun _ => by kernel_rfl) rfl fun a hF => ?_
          refine eQ 116 (v0 := .int .i64 (IntKind.i64.wrap ((pr lk k).1 + (la + cc)))) (v := .int .i64 ((pr lk k).1 + (la + cc))) hF (by kernel_rfl) (fun _ => by kernel_rfl) (wi (by omega)) fun a hF => ?_
          refine eQ 117 (v0 := .bool (decide ((pr lk k).1 + (la + cc) < nt og k))) (v := .bool false) hF (by kernel_rfl) (fun _ => by kernel_rfl) (bF (by omega)) fun a hF => ?_
          refine eQ 118 (v0 := .bool false) (v := .bool false) hF (by kernel_rfl) (fun _ => by kernel_rfl) rfl fun a hF => ?_
          refine eQ 119 (v0 := .int .i64 (k : Int)) (v := .int .i64 (k : Int)) hF (by kernel_rfl) (fun _ => by kernel_rfl) rfl fun a hF => ?_
          refine eQ 120 (v0 := .bool (decide (0 < (k : Int)))) (v := .bool true) hF (by kernel_rfl) (fun _ => by kernel_rfl) (bT hz4) fun a hF => ?_
          refine eQ 121 (v0 := .bool true) (v := .bool true) hF (by kernel_rfl) (fun _ => by kernel_rfl) rfl fun a hF => ?_
          refine eQ 122 (v0 := .slice AA6 lk.length cc6) (v := .slice AA6 lk.length cc6) hF (by kernel_rfl) (fun _ => by kernel_rfl) rfl fun a hF => ?_
          refine eQ 123 (v0 := .int .i64 (k : Int)) (v := .int .i64 (k : Int)) hF (by kernel_rfl) (fun _ => by kernel_rfl) rfl fun a hF => ?_
          refine eQ2 124 (v := .pointer (some (ea AA6 (k)))) hF (by kernel_rfl) (yld_ix (kd := .i64) (e := 3) (len := lk.length) (cap := cc6) (i := (k : Int)) (size := 1) (A := AA6) hF rfl (by kernel_rfl) (by kernel_rfl) (by kernel_rfl) (by kernel_rfl) (by kernel_rfl) (roO 8 rfl) (by omega) (by omega) (by rw [List.length_map]; omega)) fun a hF => ?_
          refine eQ2 125 (v := .int .i64 (nt og k)) hF (by kernel_rfl) (yld_ro1 (A := AA6) (j := k) hF rfl (by kernel_rfl) (by kernel_rfl) (roO 8 rfl) (by kernel_rfl) (nt_at (by omega))) fun a hF => ?_
          refine eQ 126 (v0 := .slice AA6 lk.length cc6) (v := .slice AA6 lk.length cc6) hF (by kernel_rfl) (fun _ => by kernel_rfl) rfl fun a hF => ?_
          refine eQ 127 (v0 := .int .i64 (k : Int)) (v := .int .i64 (k : Int)) hF (by kernel_rfl) (fun _ => by kernel_rfl) rfl fun a hF => ?_
          refine eQ 128 (v0 := .int .i64 (IntKind.i64.wrap ((k : Int) - 1))) (v := .int .i64 ((k : Int) - 1)) hF (by kernel_rfl) (fun _ => by kernel_rfl) (wi (by omega)) fun a hF => ?_
          refine eQ2 129 (v := .pointer (some (ea AA6 (k - 1)))) hF (by kernel_rfl) (yld_ix (kd := .i64) (e := 3) (len := lk.length) (cap := cc6) (i := (k : Int) - 1) (size := 1) (A := AA6) hF rfl (by kernel_rfl) (by kernel_rfl) (by kernel_rfl) (by kernel_rfl) (by kernel_rfl) (roO 8 rfl) (by omega) (by omega) (by rw [List.length_map]; omega)) fun a hF => ?_
          refine eQ2 130 (v := .int .i64 (nt og (k - 1))) hF (by kernel_rfl) (yld_ro1 (A := AA6) (j := k - 1) hF rfl (by kernel_rfl) (by kernel_rfl) (roO 8 rfl) (by kernel_rfl) (nt_at (by omega))) fun a hF => ?_
          refine eQ 131 (v0 := .bool (decide (nt og k < nt og (k - 1)))) (v := .bool false) hF (by kernel_rfl) (fun _ => by kernel_rfl) (bF (by omega)) fun a hF => ?_
          refine eQ 132 (v0 := .bool false) (v := .bool false) hF (by kernel_rfl) (fun _ => by kernel_rfl) rfl fun a hF => ?_
          refine eQ 133 (v0 := .bool false) (v := .bool false) hF (by kernel_rfl) (fun _ => by kernel_rfl) rfl fun a hF => ?_
          refine wpQuiet_nil ?_
          intro w hM
          refine hK18 _ _ ?_
          refine cF hF (by kernel_rfl) (by kernel_rfl) ?_
          refine wp_skip ?_
          refine hK17 _ _ ?_
          refine wp_region_lit ?_
          refine sB 1 [(104, .int .i64 (k : Int))] hF (by kernel_rfl) fun a hF => ?_
          refine wl (eP 105 (v0 := .int .i64 (IntKind.i64.wrap ((k : Int) + 1))) (v := .int .i64 ((k : Int) + 1)) hF (by kernel_rfl) (fun _ => by kernel_rfl) (wi (by omega)) fun a hF => ?_)
          refine sB 1 [(21, .int .i64 ((k : Int) + 1))] hF (by kernel_rfl) fun a hF => ?_
          refine wpList_nil ?_
          refine hK14 _ _ ⟨(k + 1), ⟨(((((Fr.nil hF).c hF (i := 17) rfl rfl).c hF (i := 15) rfl rfl).c hF (i := 14) rfl rfl).c hF (i := 21) rfl (vi (show ((k : Int) + 1 : Int) = ((k + 1) : Int) from by omega))), (hM.sub ((((Sub.nil.c (k := 8) rfl rfl).c (k := 7) rfl rfl).c (k := 2) rfl rfl).c (k := 1) rfl rfl)), (show ((k + 1) : Int) ≤ (lk.length : Int) from by omega)⟩, (show lk.length - (k + 1) < lk.length - k from by omega)⟩
        · skip
          have ho1 := hou k (by omega)
          have hp1 := hpr k (by omega)
          refine rQ hM (by kernel_rfl) (by kernel_rfl) ?_
          refine eQ 106 (v0 := .slice AA6 lk.length cc6) (v := .slice AA6 lk.length cc6) hF (by kernel_rfl) (fun _ => by kernel_rfl) rfl fun a hF => ?_
          refine eQ 107 (v0 := .int .i64 (k : Int)) (v := .int .i64 (k : Int)) hF (by kernel_rfl) (fun _ => by kernel_rfl) rfl fun a hF => ?_
          refine eQ2 108 (v := .pointer (some (ea AA6 (k)))) hF (by kernel_rfl) (yld_ix (kd := .i64) (e := 3) (len := lk.length) (cap := cc6) (i := (k : Int)) (size := 1) (A := AA6) hF rfl (by kernel_rfl) (by kernel_rfl) (by kernel_rfl) (by kernel_rfl) (by kernel_rfl) (roO 8 rfl) (by omega) (by omega) (by rw [List.length_map]; omega)) fun a hF => ?_
          refine eQ2 109 (v := .int .i64 (nt og k)) hF (by kernel_rfl) (yld_ro1 (A := AA6) (j := k) hF rfl (by kernel_rfl) (by kernel_rfl) (roO 8 rfl) (by kernel_rfl) (nt_at (by omega))) fun a hF => ?_
          refine eQ 110 (v0 := .slice AA5 lk.length cc5) (v := .slice AA5 lk.length cc5) hF (by kernel_rfl) (fun _ => by kernel_rfl) rfl fun a hF => ?_
          refine eQ 111 (v0 := .int .i64 (k : Int)) (v := .int .i64 (k : Int)) hF (by kernel_rfl) (fun _ => by kernel_rfl) rfl fun a hF => ?_
          refine eQ2 112 (v := .pointer (some (ea AA5 (k * 2)))) hF (by kernel_rfl) (yld_ix (kd := .i64) (e := 64) (len := lk.length) (cap := cc5) (i := (k : Int)) (size := 2) (A := AA5) hF rfl (by kernel_rfl) (by kernel_rfl) (by kernel_rfl) (by kernel_rfl) (by kernel_rfl) (roO 7 rfl) (by omega) (by omega) (by rw [flat2_length]; omega)) fun a hF => ?_
          refine eQ 113 (v0 := .pointer (some (ea AA5 (k * 2)))) (v := .pointer (some (ea AA5 (k * 2)))) hF (by kernel_rfl) (fun _ => by kernel_rfl) rfl fun a hF => ?_
          refine eQ2 114 (v := .int .i64 (pr lk k).1) hF (by kernel_rfl) (yld_ro1 (A := AA5) (j := k * 2) hF rfl (by kernel_rfl) (by kernel_rfl) (roO 7 rfl) (by kernel_rfl) (pr_fst (k := k) (by omega) (by omega))) fun a hF => ?_
          refine eQ 115 (v0 := .int .i64 (la + cc)) (v := .int .i64 (la + cc)) hF (by kernel_rfl) (fun _ => by kernel_rfl) rfl fun a hF => ?_
          refine eQ 116 (v0 := .int .i64 (IntKind.i64.wrap ((pr lk k).1 + (la + cc)))) (v := .int .i64 ((pr lk k).1 + (la + cc))) hF (by kernel_rfl) (fun _ => by kernel_rfl) (wi (by omega)) fun a hF => ?_
          refine eQ 117 (v0 := .bool (decide ((pr lk k).1 + (la + cc) < nt og k))) (v := .bool false) hF (by kernel_rfl) (fun _ => by kernel_rfl) (bF (by omega)) fun a hF => ?_
          refine eQ 118 (v0 := .bool false) (v := .bool false) hF (by kernel_rfl) (fun _ => by kernel_rfl) rfl fun a hF => ?_
          refine eQ 119 (v0 := .int .i64 (k : Int)) (v := .int .i64 (k : Int)) hF (by kernel_rfl) (fun _ => by kernel_rfl) rfl fun a hF => ?_
          refine eQ 120 (v0 := .bool (decide (0 < (k : Int)))) (v := .bool false) hF (by kernel_rfl) (fun _ => by kernel_rfl) (bF hz4) fun a hF => ?_
          refine eQ 121 (v0 := .bool false) (v := .bool false) hF (by kernel_rfl) (fun _ => by kernel_rfl) rfl fun a hF => ?_
          refine qSkip hF (by kernel_rfl) rfl (by decide) fun a hF => ?_
          refine qSkip hF (by kernel_rfl) rfl (by decide) fun a hF => ?_
          refine qSkip hF (by kernel_rfl) rfl (by decide) fun a hF => ?_
          refine qSkip hF (by kernel_rfl) rfl (by decide) fun a hF => ?_
          refine qSkip hF (by kernel_rfl) rfl (by decide) fun a hF => ?_
          refine qSkip hF (by kernel_rfl) rfl (by decide) fun a hF => ?_
          refine qSkip hF (by kernel_rfl) rfl (by decide) fun a hF => ?_
          refine qSkip hF (by kernel_rfl) rfl (by decide) fun a hF => ?_
          refine qSkip hF (by kernel_rfl) rfl (by decide) fun a hF => ?_
          refine qSkip hF (by kernel_rfl) rfl (by decide) fun a hF => ?_
          refine eQ 132 (v0 := .bool false) (v := .bool false) hF (by kernel_rfl) (fun _ => by kernel_rfl) rfl fun a hF => ?_
          refine eQ 133 (v0 := .bool false) (v := .bool false) hF (by kernel_rfl) (fun _ => by kernel_rfl) rfl fun a hF => ?_
          refine wpQuiet_nil ?_
          intro w hM
          refine hK18 _ _ ?_
          refine cF hF (by kernel_rfl) (by kernel_rfl) ?_
          refine wp_skip ?_
          refine hK17 _ _ ?_
          refine wp_region_lit ?_
          refine sB 1 [(104, .int .i64 (k : Int))] hF (by kernel_rfl) fun a hF => ?_
          refine wl (eP 105 (v0 := .int .i64 (IntKind.i64.wrap ((k : Int) + 1))) (v := .int .i64 ((k : Int) + 1)) hF (by kernel_rfl) (fun _ => by kernel_rfl) (wi (by omega)) fun a hF => ?_)
          refine sB 1 [(21, .int .i64 ((k : Int) + 1))] hF (by kernel_rfl) fun a hF => ?_
          refine wpList_nil ?_
          refine hK14 _ _ ⟨(k + 1), ⟨(((((Fr.nil hF).c hF (i := 17) rfl rfl).c hF (i := 15) rfl rfl).c hF (i := 14) rfl rfl).c hF (i := 21) rfl (vi (show ((k : Int) + 1 : Int) = ((k + 1) : Int) from by omega))), (hM.sub ((((Sub.nil.c (k := 8) rfl rfl).c (k := 7) rfl rfl).c (k := 2) rfl rfl).c (k := 1) rfl rfl)), (show ((k + 1) : Int) ≤ (lk.length : Int) from by omega)⟩, (show lk.length - (k + 1) < lk.length - k from by omega)⟩
      · skip
        replace hF := hF.c hF (i := 103) (v := .bool false) rfl (bF hz3)
        refine cF hF (by kernel_rfl) (by kernel_rfl) ?_
        refine wp_exit ?_
        refine hK12 _ _ ?_
        refine wp_seq_k fun K19 hK19 => ?_
        refine wp_region_lit ?_
        refine sB 1 [(10, .bool true)] hF (by kernel_rfl) fun a hF => ?_
        refine wpList_nil ?_
        refine hK19 _ _ ?_
        refine wp_ret ?_
        refine hR0 _ _ ?_
        refine ret_of hF hM (.tmp rfl (.nil)) ?_
        exact ⟨rfl, hM.bel⟩
  · skip
    refine wp_region_lit ?_
    refine wl (eL 65 5 0 (v := .agg #[.int .i64 ob, .int .i64 oq]) hF hM (by kernel_rfl) rfl rfl (by kernel_rfl) (by kernel_rfl) fun a w hF hM => ?_)
    refine wl (eN 66 12 (t := 39) (fun b => .slice (some ⟨b, 0, none⟩) 1 1) #[.int .i64 ob, .int .i64 oq] hF hM (by kernel_rfl) (fun _ => by kernel_rfl) fun bb10 a w hF hM => ?_)
    refine wl (eL 67 6 0 (v := .agg #[.int .i64 sr, .int .i64 la]) hF hM (by kernel_rfl) rfl rfl (by kernel_rfl) (by kernel_rfl) fun a w hF hM => ?_)
    refine wl (eM 68 (v := .tuple #[.int .i64 0, .int .i64 141]) hF hM (by kernel_rfl) (yld_call (f := 20) (args := #[.slice (some ⟨bb10, 0, none⟩) 1 1, .agg #[.int .i64 sr, .int .i64 la]]) hF (by kernel_rfl) (fun _ => by kernel_rfl) (fun w hM => tup_to (dl_bad (k3 hz1)).2 ((dl_bad (k3 hz1)).1.trans (cs_141 hob v1 (by omega))) (delay_w sr la (some ⟨bb10, 0, none⟩) [(ob, oq)] _ w (hM.roRow (k := 12) rfl)))) fun a w hF hM => ?_)
    refine sB 5 [(64, .tuple #[.int .i64 0, .int .i64 141]), (69, .int .i64 0), (70, .int .i64 141), (19, .int .i64 0), (20, .int .i64 141)] hF (by kernel_rfl) fun a hF => ?_
    refine wpList_nil ?_
    refine hK9 _ _ ?_
    refine wp_seq_k fun K20 hK20 => ?_
    refine wp_seq_k fun K21 hK21 => ?_
    refine wp_region_lit ?_
    refine sB 1 [(71, .int .i64 0)] hF (by kernel_rfl) fun a hF => ?_
    refine wl (eP 72 (v0 := .bool (!decide (0 = 0))) (v := .bool false) hF (by kernel_rfl) (fun _ => by kernel_rfl) (nT (by omega)) fun a hF => ?_)
    refine sB 2 [(73, .bool false), (74, .int .i64 0)] hF (by kernel_rfl) fun a hF => ?_
    refine wl (eP 75 (v0 := .bool (!decide (0 = 0))) (v := .bool false) hF (by kernel_rfl) (fun _ => by kernel_rfl) (nT (by omega)) fun a hF => ?_)
    refine sB 6 [(76, .bool false), (77, .bool false), (78, .slice AA6 lk.length cc6), (79, .int .i64 (lk.length : Int)), (80, .slice AA5 lk.length cc5), (81, .int .i64 (lk.length : Int))] hF (by kernel_rfl) fun a hF => ?_
    refine wl (eP 82 (v0 := .bool (!decide ((lk.length : Int) = (lk.length : Int)))) (v := .bool false) hF (by kernel_rfl) (fun _ => by kernel_rfl) (nT (by omega)) fun a hF => ?_)
    refine sB 3 [(83, .bool false), (84, .bool false), (85, .pointer (some ⟨bb3, 1, none⟩))] hF (by kernel_rfl) fun a hF => ?_
    refine wl (eL 86 5 1 (v := .int .i64 oq) hF hM (by kernel_rfl) rfl rfl (by kernel_rfl) (by kernel_rfl) fun a w hF hM => ?_)
    refine sB 1 [(87, .pointer (some ⟨bb4, 0, none⟩))] hF (by kernel_rfl) fun a hF => ?_
    refine wl (eL 88 6 0 (v := .int .i64 sr) hF hM (by kernel_rfl) rfl rfl (by kernel_rfl) (by kernel_rfl) fun a w hF hM => ?_)
    refine wl (eP 89 (v0 := .bool (decide (oq ≤ sr))) (v := .bool false) hF (by kernel_rfl) (fun _ => by kernel_rfl) (bF hz1) fun a hF => ?_)
    refine sB 10 [(90, .bool false), (91, undef), (92, undef), (93, undef), (94, undef), (95, undef), (96, undef), (97, undef), (98, .bool false), (99, .bool false)] hF (by kernel_rfl) fun a hF => ?_
    refine wpList_nil ?_
    refine hK21 _ _ ?_
    refine cF hF (by kernel_rfl) (by kernel_rfl) ?_
    refine wp_skip ?_
    refine hK20 _ _ ?_
    refine wp_seq_k fun K22 hK22 => ?_
    refine wp_seq_k fun K23 hK23 => ?_
    refine wp_region_lit ?_
    refine sB 1 [(21, .int .i64 0)] hF (by kernel_rfl) fun a hF => ?_
    refine wpList_nil ?_
    refine hK23 _ _ ?_
    refine wp_block ?_
    refine wp_loop_k (G := Nat) (fun gg a w => Fr 134 [(21, some (.int .i64 (gg : Int))), (14, some (.slice AA5 lk.length cc5)), (15, some (.slice AA6 lk.length cc6)), (17, some (.int .i64 (la + cc)))] a ∧ Mem w0.heap.size w0 [(1, some (.ro Ga (gaps.map (Value.int .u16)))), (2, some (.ro Sa (sizes.map (Value.int .u16)))), (7, some (.own (.slice AA5 lk.length cc5) 64 2 lk.length (flat2 lk))), (8, some (.own (.slice AA6 lk.length cc6) 3 1 lk.length (og.map (Value.int .i64))))] w ∧ ((gg : Int) ≤ (lk.length : Int))) (fun gg => lk.length - gg) (0) ?_ ?_
    · refine ⟨(((((Fr.nil hF).c hF (i := 17) rfl rfl).c hF (i := 15) rfl rfl).c hF (i := 14) rfl rfl).c hF (i := 21) rfl (vi (show (0 : Int) = (0 : Int) from by omega))), (hM.sub ((((Sub.nil.c (k := 8) rfl rfl).c (k := 7) rfl rfl).c (k := 2) rfl rfl).c (k := 1) rfl rfl)), (show (0 : Int) ≤ (lk.length : Int) from by omega)⟩
    · intro gg a w hI
      intro K24 hK24
      obtain ⟨k, rfl⟩ : ∃ x, x = gg := ⟨_, rfl⟩
      try dsimp only at hI hK24
      obtain ⟨hF, hM, hz5⟩ := hI
      refine wp_seq_k fun K25 hK25 => ?_
      refine wp_seq_k fun K26 hK26 => ?_
      refine wp_region_lit ?_
      refine sB 4 [(100, .int .i64 (k : Int)), (101, .slice AA5 lk.length cc5), (102, .int .i64 (lk.length : Int)), (103, .bool (decide ((k : Int) < (lk.length : Int))))] hF (by kernel_rfl) fun a hF => ?_
      refine wpList_nil ?_
      refine hK26 _ _ ?_
      by_cases hz6 : (k : Int) < (lk.length : Int)
      · skip
        replace hF := hF.c hF (i := 103) (v := .bool true) rfl (bT hz6)
        refine cT hF (by kernel_rfl) (by kernel_rfl) ?_
        refine wp_skip ?_
        refine hK25 _ _ ?_
        refine wp_seq_k fun K27 hK27 => ?_
        refine wp_block ?_
        refine wp_seq_k fun K28 hK28 => ?_
        by_cases hz7 : 0 < (k : Int)
        · skip
          have ho1 := hou k (by omega)
          have hp1 := hpr k (by omega)
          have ho2 := hmo k (by omega) (by omega)
          refine rQ hM (by kernel_rfl) (by kernel_rfl) ?_
          refine eQ 106 (v0 := .slice AA6 lk.length cc6) (v := .slice AA6 lk.length cc6) hF (by kernel_rfl) (fun _ => by kernel_rfl) rfl fun a hF => ?_
          refine eQ 107 (v0 := .int .i64 (k : Int)) (v := .int .i64 (k : Int)) hF (by kernel_rfl) (fun _ => by kernel_rfl) rfl fun a hF => ?_
          refine eQ2 108 (v := .pointer (some (ea AA6 (k)))) hF (by kernel_rfl) (yld_ix (kd := .i64) (e := 3) (len := lk.length) (cap := cc6) (i := (k : Int)) (size := 1) (A := AA6) hF rfl (by kernel_rfl) (by kernel_rfl) (by kernel_rfl) (by kernel_rfl) (by kernel_rfl) (roO 8 rfl) (by omega) (by omega) (by rw [List.length_map]; omega)) fun a hF => ?_
          refine eQ2 109 (v := .int .i64 (nt og k)) hF (by kernel_rfl) (yld_ro1 (A := AA6) (j := k) hF rfl (by kernel_rfl) (by kernel_rfl) (roO 8 rfl) (by kernel_rfl) (nt_at (by omega))) fun a hF => ?_
          refine eQ 110 (v0 := .slice AA5 lk.length cc5) (v := .slice AA5 lk.length cc5) hF (by kernel_rfl) (fun _ => by kernel_rfl) rfl fun a hF => ?_
          refine eQ 111 (v0 := .int .i64 (k : Int)) (v := .int .i64 (k : Int)) hF (by kernel_rfl) (fun _ => by kernel_rfl) rfl fun a hF => ?_
          refine eQ2 112 (v := .pointer (some (ea AA5 (k * 2)))) hF (by kernel_rfl) (yld_ix (kd := .i64) (e := 64) (len := lk.length) (cap := cc5) (i := (k : Int)) (size := 2) (A := AA5) hF rfl (by kernel_rfl) (by kernel_rfl) (by kernel_rfl) (by kernel_rfl) (by kernel_rfl) (roO 7 rfl) (by omega) (by omega) (by rw [flat2_length]; omega)) fun a hF => ?_
          refine eQ 113 (v0 := .pointer (some (ea AA5 (k * 2)))) (v := .pointer (some (ea AA5 (k * 2)))) hF (by kernel_rfl) (fun _ => by kernel_rfl) rfl fun a hF => ?_
          refine eQ2 114 (v := .int .i64 (pr lk k).1) hF (by kernel_rfl) (yld_ro1 (A := AA5) (j := k * 2) hF rfl (by kernel_rfl) (by kernel_rfl) (roO 7 rfl) (by kernel_rfl) (pr_fst (k := k) (by omega) (by omega))) fun a hF => ?_
          refine eQ 115 (v0 := .int .i64 (la + cc)) (v := .int .i64 (la + cc)) hF (by kernel_rfl) (fun _ => by kernel_rfl) rfl fun a hF => ?_
          refine eQ 116 (v0 := .int .i64 (IntKind.i64.wrap ((pr lk k).1 + (la + cc)))) (v := .int .i64 ((pr lk k).1 + (la + cc))) hF (by kernel_rfl) (fun _ => by kernel_rfl) (wi (by omega)) fun a hF => ?_
          refine eQ 117 (v0 := .bool (decide ((pr lk k).1 + (la + cc) < nt og k))) (v := .bool false) hF (by kernel_rfl) (fun _ => by kernel_rfl) (bF (by omega)) fun a hF => ?_
          refine eQ 118 (v0 := .bool false) (v := .bool false) hF (by kernel_rfl) (fun _ => by kernel_rfl) rfl fun a hF => ?_
          refine eQ 119 (v0 := .int .i64 (k : Int)) (v := .int .i64 (k : Int)) hF (by kernel_rfl) (fun _ => by kernel_rfl) rfl fun a hF => ?_
          refine eQ 120 (v0 := .bool (decide (0 < (k : Int)))) (v := .bool true) hF (by kernel_rfl) (fun _ => by kernel_rfl) (bT hz7) fun a hF => ?_
          refine eQ 121 (v0 := .bool true) (v := .bool true) hF (by kernel_rfl) (fun _ => by kernel_rfl) rfl fun a hF => ?_
          refine eQ 122 (v0 := .slice AA6 lk.length cc6) (v := .slice AA6 lk.length cc6) hF (by kernel_rfl) (fun _ => by kernel_rfl) rfl fun a hF => ?_
          refine eQ 123 (v0 := .int .i64 (k : Int)) (v := .int .i64 (k : Int)) hF (by kernel_rfl) (fun _ => by kernel_rfl) rfl fun a hF => ?_
          refine eQ2 124 (v := .pointer (some (ea AA6 (k)))) hF (by kernel_rfl) (yld_ix (kd := .i64) (e := 3) (len := lk.length) (cap := cc6) (i := (k : Int)) (size := 1) (A := AA6) hF rfl (by kernel_rfl) (by kernel_rfl) (by kernel_rfl) (by kernel_rfl) (by kernel_rfl) (roO 8 rfl) (by omega) (by omega) (by rw [List.length_map]; omega)) fun a hF => ?_
          refine eQ2 125 (v := .int .i64 (nt og k)) hF (by kernel_rfl) (yld_ro1 (A := AA6) (j := k) hF rfl (by kernel_rfl) (by kernel_rfl) (roO 8 rfl) (by kernel_rfl) (nt_at (by omega))) fun a hF => ?_
          refine eQ 126 (v0 := .slice AA6 lk.length cc6) (v := .slice AA6 lk.length cc6) hF (by kernel_rfl) (fun _ => by kernel_rfl) rfl fun a hF => ?_
          refine eQ 127 (v0 := .int .i64 (k : Int)) (v := .int .i64 (k : Int)) hF (by kernel_rfl) (fun _ => by kernel_rfl) rfl fun a hF => ?_
          refine eQ 128 (v0 := .int .i64 (IntKind.i64.wrap ((k : Int) - 1))) (v := .int .i64 ((k : Int) - 1)) hF (by kernel_rfl) (fun _ => by kernel_rfl) (wi (by omega)) fun a hF => ?_
          refine eQ2 129 (v := .pointer (some (ea AA6 (k - 1)))) hF (by kernel_rfl) (yld_ix (kd := .i64) (e := 3) (len := lk.length) (cap := cc6) (i := (k : Int) - 1) (size := 1) (A := AA6) hF rfl (by kernel_rfl) (by kernel_rfl) (by kernel_rfl) (by kernel_rfl) (by kernel_rfl) (roO 8 rfl) (by omega) (by omega) (by rw [List.length_map]; omega)) fun a hF => ?_
          refine eQ2 130 (v := .int .i64 (nt og (k - 1))) hF (by kernel_rfl) (yld_ro1 (A := AA6) (j := k - 1) hF rfl (by kernel_rfl) (by kernel_rfl) (roO 8 rfl) (by kernel_rfl) (nt_at (by omega))) fun a hF => ?_
          refine eQ 131 (v0 := .bool (decide (nt og k < nt og (k - 1)))) (v := .bool false) hF (by kernel_rfl) (fun _ => by kernel_rfl) (bF (by omega)) fun a hF => ?_
          refine eQ 132 (v0 := .bool false) (v := .bool false) hF (by kernel_rfl) (fun _ => by kernel_rfl) rfl fun a hF => ?_
          refine eQ 133 (v0 := .bool false) (v := .bool false) hF (by kernel_rfl) (fun _ => by kernel_rfl) rfl fun a hF => ?_
          refine wpQuiet_nil ?_
          intro w hM
          refine hK28 _ _ ?_
          refine cF hF (by kernel_rfl) (by kernel_rfl) ?_
          refine wp_skip ?_
          refine hK27 _ _ ?_
          refine wp_region_lit ?_
          refine sB 1 [(104, .int .i64 (k : Int))] hF (by kernel_rfl) fun a hF => ?_
          refine wl (eP 105 (v0 := .int .i64 (IntKind.i64.wrap ((k : Int) + 1))) (v := .int .i64 ((k : Int) + 1)) hF (by kernel_rfl) (fun _ => by kernel_rfl) (wi (by omega)) fun a hF => ?_)
          refine sB 1 [(21, .int .i64 ((k : Int) + 1))] hF (by kernel_rfl) fun a hF => ?_
          refine wpList_nil ?_
          refine hK24 _ _ ⟨(k + 1), ⟨(((((Fr.nil hF).c hF (i := 17) rfl rfl).c hF (i := 15) rfl rfl).c hF (i := 14) rfl rfl).c hF (i := 21) rfl (vi (show ((k : Int) + 1 : Int) = ((k + 1) : Int) from by omega))), (hM.sub ((((Sub.nil.c (k := 8) rfl rfl).c (k := 7) rfl rfl).c (k := 2) rfl rfl).c (k := 1) rfl rfl)), (show ((k + 1) : Int) ≤ (lk.length : Int) from by omega)⟩, (show lk.length - (k + 1) < lk.length - k from by omega)⟩
        · skip
          have ho1 := hou k (by omega)
          have hp1 := hpr k (by omega)
          refine rQ hM (by kernel_rfl) (by kernel_rfl) ?_
          refine eQ 106 (v0 := .slice AA6 lk.length cc6) (v := .slice AA6 lk.length cc6) hF (by kernel_rfl) (fun _ => by kernel_rfl) rfl fun a hF => ?_
          refine eQ 107 (v0 := .int .i64 (k : Int)) (v := .int .i64 (k : Int)) hF (by kernel_rfl) (fun _ => by kernel_rfl) rfl fun a hF => ?_
          refine eQ2 108 (v := .pointer (some (ea AA6 (k)))) hF (by kernel_rfl) (yld_ix (kd := .i64) (e := 3) (len := lk.length) (cap := cc6) (i := (k : Int)) (size := 1) (A := AA6) hF rfl (by kernel_rfl) (by kernel_rfl) (by kernel_rfl) (by kernel_rfl) (by kernel_rfl) (roO 8 rfl) (by omega) (by omega) (by rw [List.length_map]; omega)) fun a hF => ?_
          refine eQ2 109 (v := .int .i64 (nt og k)) hF (by kernel_rfl) (yld_ro1 (A := AA6) (j := k) hF rfl (by kernel_rfl) (by kernel_rfl) (roO 8 rfl) (by kernel_rfl) (nt_at (by omega))) fun a hF => ?_
          refine eQ 110 (v0 := .slice AA5 lk.length cc5) (v := .slice AA5 lk.length cc5) hF (by kernel_rfl) (fun _ => by kernel_rfl) rfl fun a hF => ?_
          refine eQ 111 (v0 := .int .i64 (k : Int)) (v := .int .i64 (k : Int)) hF (by kernel_rfl) (fun _ => by kernel_rfl) rfl fun a hF => ?_
          refine eQ2 112 (v := .pointer (some (ea AA5 (k * 2)))) hF (by kernel_rfl) (yld_ix (kd := .i64) (e := 64) (len := lk.length) (cap := cc5) (i := (k : Int)) (size := 2) (A := AA5) hF rfl (by kernel_rfl) (by kernel_rfl) (by kernel_rfl) (by kernel_rfl) (by kernel_rfl) (roO 7 rfl) (by omega) (by omega) (by rw [flat2_length]; omega)) fun a hF => ?_
          refine eQ 113 (v0 := .pointer (some (ea AA5 (k * 2)))) (v := .pointer (some (ea AA5 (k * 2)))) hF (by kernel_rfl) (fun _ => by kernel_rfl) rfl fun a hF => ?_
          refine eQ2 114 (v := .int .i64 (pr lk k).1) hF (by kernel_rfl) (yld_ro1 (A := AA5) (j := k * 2) hF rfl (by kernel_rfl) (by kernel_rfl) (roO 7 rfl) (by kernel_rfl) (pr_fst (k := k) (by omega) (by omega))) fun a hF => ?_
          refine eQ 115 (v0 := .int .i64 (la + cc)) (v := .int .i64 (la + cc)) hF (by kernel_rfl) (fun _ => by kernel_rfl) rfl fun a hF => ?_
          refine eQ 116 (v0 := .int .i64 (IntKind.i64.wrap ((pr lk k).1 + (la + cc)))) (v := .int .i64 ((pr lk k).1 + (la + cc))) hF (by kernel_rfl) (fun _ => by kernel_rfl) (wi (by omega)) fun a hF => ?_
          refine eQ 117 (v0 := .bool (decide ((pr lk k).1 + (la + cc) < nt og k))) (v := .bool false) hF (by kernel_rfl) (fun _ => by kernel_rfl) (bF (by omega)) fun a hF => ?_
          refine eQ 118 (v0 := .bool false) (v := .bool false) hF (by kernel_rfl) (fun _ => by kernel_rfl) rfl fun a hF => ?_
          refine eQ 119 (v0 := .int .i64 (k : Int)) (v := .int .i64 (k : Int)) hF (by kernel_rfl) (fun _ => by kernel_rfl) rfl fun a hF => ?_
          refine eQ 120 (v0 := .bool (decide (0 < (k : Int)))) (v := .bool false) hF (by kernel_rfl) (fun _ => by kernel_rfl) (bF hz7) fun a hF => ?_
          refine eQ 121 (v0 := .bool false) (v := .bool false) hF (by kernel_rfl) (fun _ => by kernel_rfl) rfl fun a hF => ?_
          refine qSkip hF (by kernel_rfl) rfl (by decide) fun a hF => ?_
          refine qSkip hF (by kernel_rfl) rfl (by decide) fun a hF => ?_
          refine qSkip hF (by kernel_rfl) rfl (by decide) fun a hF => ?_
          refine qSkip hF (by kernel_rfl) rfl (by decide) fun a hF => ?_
          refine qSkip hF (by kernel_rfl) rfl (by decide) fun a hF => ?_
          refine qSkip hF (by kernel_rfl) rfl (by decide) fun a hF => ?_
          refine qSkip hF (by kernel_rfl) rfl (by decide) fun a hF => ?_
          refine qSkip hF (by kernel_rfl) rfl (by decide) fun a hF => ?_
          refine qSkip hF (by kernel_rfl) rfl (by decide) fun a hF => ?_
          refine qSkip hF (by kernel_rfl) rfl (by decide) fun a hF => ?_
          refine eQ 132 (v0 := .bool false) (v := .bool false) hF (by kernel_rfl) (fun _ => by kernel_rfl) rfl fun a hF => ?_
          refine eQ 133 (v0 := .bool false) (v := .bool false) hF (by kernel_rfl) (fun _ => by kernel_rfl) rfl fun a hF => ?_
          refine wpQuiet_nil ?_
          intro w hM
          refine hK28 _ _ ?_
          refine cF hF (by kernel_rfl) (by kernel_rfl) ?_
          refine wp_skip ?_
          refine hK27 _ _ ?_
          refine wp_region_lit ?_
          refine sB 1 [(104, .int .i64 (k : Int))] hF (by kernel_rfl) fun a hF => ?_
          refine wl (eP 105 (v0 := .int .i64 (IntKind.i64.wrap ((k : Int) + 1))) (v := .int .i64 ((k : Int) + 1)) hF (by kernel_rfl) (fun _ => by kernel_rfl) (wi (by omega)) fun a hF => ?_)
          refine sB 1 [(21, .int .i64 ((k : Int) + 1))] hF (by kernel_rfl) fun a hF => ?_
          refine wpList_nil ?_
          refine hK24 _ _ ⟨(k + 1), ⟨(((((Fr.nil hF).c hF (i := 17) rfl rfl).c hF (i := 15) rfl rfl).c hF (i := 14) rfl rfl).c hF (i := 21) rfl (vi (show ((k : Int) + 1 : Int) = ((k + 1) : Int) from by omega))), (hM.sub ((((Sub.nil.c (k := 8) rfl rfl).c (k := 7) rfl rfl).c (k := 2) rfl rfl).c (k := 1) rfl rfl)), (show ((k + 1) : Int) ≤ (lk.length : Int) from by omega)⟩, (show lk.length - (k + 1) < lk.length - k from by omega)⟩
      · skip
        replace hF := hF.c hF (i := 103) (v := .bool false) rfl (bF hz6)
        refine cF hF (by kernel_rfl) (by kernel_rfl) ?_
        refine wp_exit ?_
        refine hK22 _ _ ?_
        refine wp_seq_k fun K29 hK29 => ?_
        refine wp_region_lit ?_
        refine sB 1 [(10, .bool true)] hF (by kernel_rfl) fun a hF => ?_
        refine wpList_nil ?_
        refine hK29 _ _ ?_
        refine wp_ret ?_
        refine hR0 _ _ ?_
        refine ret_of hF hM (.tmp rfl (.nil)) ?_
        exact ⟨rfl, hM.bel⟩

end Go.Proofs.Ytoighcbbaacnaaa
