/-
  The trace of a draft.
-/
import Derived.Test.YtoighcbbaacnaaaDraftFacts
namespace Go.Proofs.Ytoighcbbaacnaaa
open Go.RowKit
set_option linter.unusedVariables false
set_option linter.unusedSimpArgs false

theorem draftTrace_w (bu ra : Int) (Ga : Option Addr) (gaps : List Int) (cg : Nat) (Sa : Option Addr) (sizes : List Int) (cs : Nat) (w0 : World) (hGa : Ro w0 Ga (gaps.map (Value.int .u16))) (hSa : Ro w0 Sa (sizes.map (Value.int .u16))) (hg : All16 gaps) (hs : All16 sizes) (hmg : gaps.length ≤ 9223372036854775807) (hms : sizes.length ≤ 9223372036854775807) :
    Calls Try.prog 26 #[.agg #[.int .u32 bu, .int .u32 ra, .slice Ga gaps.length cg, .slice Sa sizes.length cs]] w0 (RetOwn w0 (fun v => v) 64 2 (drTrace gaps sizes).length (flat2 (drTrace gaps sizes))) := by
  refine enterK 43 Try.func26 rfl rfl rfl ?_
  intro a hF Q0 hR0 hN0
  have hM := Mem.start w0
  replace hM := hM.addOld 1 hGa (Nat.le_refl _)
  replace hM := hM.addOld 2 hSa (Nat.le_refl _)
  refine wp_seq_k fun K1 hK1 => ?_
  refine wp_region_lit ?_
  refine wl (eN 1 3 (t := 42) (fun b => .pointer (some ⟨b, 0, none⟩)) #[.int .u32 bu, .int .u32 ra, .slice Ga gaps.length cg, .slice Sa sizes.length cs] hF hM (by kernel_rfl) (fun _ => by kernel_rfl) fun bb1 a w hF hM => ?_)
  refine sB 1 [(2, .slice none 0 0)] hF (by kernel_rfl) fun a hF => ?_
  refine wpList_nil ?_
  refine hK1 _ _ ?_
  refine wp_seq_k fun K2 hK2 => ?_
  refine wp_region_lit ?_
  refine sB 1 [(3, .slice none 0 0)] hF (by kernel_rfl) fun a hF => ?_
  refine wpList_nil ?_
  refine hK2 _ _ ?_
  refine wp_seq_k fun K3 hK3 => ?_
  refine wp_region_lit ?_
  refine sB 1 [(4, .int .i64 0)] hF (by kernel_rfl) fun a hF => ?_
  refine wpList_nil ?_
  refine hK3 _ _ ?_
  refine wp_seq_k fun K4 hK4 => ?_
  refine wp_seq_k fun K5 hK5 => ?_
  refine wp_region_lit ?_
  refine sB 1 [(5, .int .i64 0)] hF (by kernel_rfl) fun a hF => ?_
  refine wpList_nil ?_
  refine hK5 _ _ ?_
  refine wp_block ?_
  replace hM := hM.addNil 4 64 2
  have hg0 : gapSum gaps 0 = 0 := by simp [gapSum]
  refine wp_loop_k (G := Nat × Option Addr × Nat) (fun gg a w => Fr 43 [(3, some (.slice gg.2.1 gg.1 gg.2.2)), (4, some (.int .i64 (gapSum gaps gg.1))), (5, some (.int .i64 (gg.1 : Int))), (1, some (.pointer (some ⟨bb1, 0, none⟩))), (2, some (.slice none 0 0))] a ∧ Mem w0.heap.size w0 [(1, some (.ro Ga (gaps.map (Value.int .u16)))), (2, some (.ro Sa (sizes.map (Value.int .u16)))), (3, some (.row bb1 42 #[.int .u32 bu, .int .u32 ra, .slice Ga gaps.length cg, .slice Sa sizes.length cs])), (4, some (.own (.slice gg.2.1 gg.1 gg.2.2) 64 2 gg.1 (flat2 (drTake gaps sizes gg.1))))] w ∧ ((gg.1 : Int) ≤ (sizes.length : Int)) ∧ ((gg.1 : Int) ≤ 30)) (fun gg => 30 - gg.1) (0, none, 0) ?_ ?_
  · refine ⟨((((((Fr.nil hF).c hF (i := 2) rfl rfl).c hF (i := 1) rfl rfl).c hF (i := 5) rfl (vi (show (0 : Int) = (0 : Int) from by omega))).c hF (i := 4) rfl (vi (show (0 : Int) = gapSum gaps 0 from by omega))).c hF (i := 3) rfl rfl), (hM.sub ((((Sub.nil.c (k := 4) rfl rfl).c (k := 3) rfl rfl).c (k := 2) rfl rfl).c (k := 1) rfl rfl)), (show (0 : Int) ≤ (sizes.length : Int) from by omega), (show (0 : Int) ≤ 30 from by omega)⟩
  · intro gg a w hI
    intro K6 hK6
    obtain ⟨k, A, cap⟩ := gg
    try dsimp only at hI hK6
    obtain ⟨hF, hM, hz1, hz2⟩ := hI
    have hgb := gapSum_bound hg k
    refine wp_seq_k fun K7 hK7 => ?_
    refine wp_seq_k fun K8 hK8 => ?_
    by_cases hz3 : (k : Int) < (sizes.length : Int)
    · skip
      refine wp_region_lit ?_
      refine sB 2 [(6, .int .i64 (k : Int)), (7, .pointer (some ⟨bb1, 3, none⟩))] hF (by kernel_rfl) fun a hF => ?_
      refine wl (eL 8 3 3 (v := .slice Sa sizes.length cs) hF hM (by kernel_rfl) rfl rfl (by kernel_rfl) (by kernel_rfl) fun a w hF hM => ?_)
      refine sB 1 [(9, .int .i64 (sizes.length : Int))] hF (by kernel_rfl) fun a hF => ?_
      refine wl (eP 10 (v0 := .bool (decide ((k : Int) < (sizes.length : Int)))) (v := .bool true) hF (by kernel_rfl) (fun _ => by kernel_rfl) (bT hz3) fun a hF => ?_)
      refine sB 4 [(11, .bool true), (12, .int .i64 (k : Int)), (13, .bool (decide ((k : Int) < 30))), (14, .bool (decide ((k : Int) < 30)))] hF (by kernel_rfl) fun a hF => ?_
      refine wpList_nil ?_
      refine hK8 _ _ ?_
      by_cases hz4 : (k : Int) < 30
      · skip
        replace hF := hF.c hF (i := 13) (v := .bool true) rfl (bT hz4)
        replace hF := hF.c hF (i := 14) (v := .bool true) rfl (bT hz4)
        refine cT hF (by kernel_rfl) (by kernel_rfl) ?_
        refine wp_skip ?_
        refine hK7 _ _ ?_
        refine wp_seq_k fun K9 hK9 => ?_
        refine wp_block ?_
        refine wp_seq_k fun K10 hK10 => ?_
        refine wp_seq_k fun K11 hK11 => ?_
        refine wp_region_lit ?_
        refine sB 2 [(17, .int .i64 (k : Int)), (18, .pointer (some ⟨bb1, 2, none⟩))] hF (by kernel_rfl) fun a hF => ?_
        refine wl (eL 19 3 2 (v := .slice Ga gaps.length cg) hF hM (by kernel_rfl) rfl rfl (by kernel_rfl) (by kernel_rfl) fun a w hF hM => ?_)
        refine sB 2 [(20, .int .i64 (gaps.length : Int)), (21, .bool (decide ((k : Int) < (gaps.length : Int))))] hF (by kernel_rfl) fun a hF => ?_
        refine wpList_nil ?_
        refine hK11 _ _ ?_
        by_cases hz5 : (k : Int) < (gaps.length : Int)
        · skip
          replace hF := hF.c hF (i := 21) (v := .bool true) rfl (bT hz5)
          refine cT hF (by kernel_rfl) (by kernel_rfl) ?_
          refine wp_region_lit ?_
          refine sB 2 [(22, .int .i64 (gapSum gaps k)), (23, .pointer (some ⟨bb1, 2, none⟩))] hF (by kernel_rfl) fun a hF => ?_
          refine wl (eL 24 3 2 (v := .slice Ga gaps.length cg) hF hM (by kernel_rfl) rfl rfl (by kernel_rfl) (by kernel_rfl) fun a w hF hM => ?_)
          refine sB 1 [(25, .int .i64 (k : Int))] hF (by kernel_rfl) fun a hF => ?_
          refine wl (eM 26 (v := .pointer (some (ea Ga (k)))) hF hM (by kernel_rfl) (yld_ix (kd := .i64) (e := 62) (len := gaps.length) (cap := cg) (i := (k : Int)) (size := 1) (A := Ga) hF rfl (by kernel_rfl) (by kernel_rfl) (by kernel_rfl) (by kernel_rfl) (by kernel_rfl) (roK 1 rfl) (by omega) (by omega) (by rw [List.length_map]; omega)) fun a w hF hM => ?_)
          refine wl (eM 27 (v := .int .u16 (nt gaps k)) hF hM (by kernel_rfl) (yld_ro1 (A := Ga) (j := k) hF rfl (by kernel_rfl) (by kernel_rfl) (roK 1 rfl) (by kernel_rfl) (nt_at (by omega))) fun a w hF hM => ?_)
          have := all16_nt hg k
          refine wl (eP 28 (v0 := .int .i64 (IntKind.i64.wrap (nt gaps k))) (v := .int .i64 (nt gaps k)) hF (by kernel_rfl) (fun _ => by kernel_rfl) (vi (IntWalk.i64_in _ (by omega))) fun a hF => ?_)
          refine wl (eP 29 (v0 := .int .i64 (IntKind.i64.wrap (gapSum gaps k + nt gaps k))) (v := .int .i64 (gapSum gaps k + nt gaps k)) hF (by kernel_rfl) (fun _ => by kernel_rfl) (wi (by omega)) fun a hF => ?_)
          refine sB 1 [(4, .int .i64 (gapSum gaps k + nt gaps k))] hF (by kernel_rfl) fun a hF => ?_
          refine wpList_nil ?_
          refine hK10 _ _ ?_
          refine wp_region_lit ?_
          refine sB 3 [(30, .slice A k cap), (31, .int .i64 (gapSum gaps k + nt gaps k)), (32, .pointer (some ⟨bb1, 3, none⟩))] hF (by kernel_rfl) fun a hF => ?_
          refine wl (eL 33 3 3 (v := .slice Sa sizes.length cs) hF hM (by kernel_rfl) rfl rfl (by kernel_rfl) (by kernel_rfl) fun a w hF hM => ?_)
          refine sB 1 [(34, .int .i64 (k : Int))] hF (by kernel_rfl) fun a hF => ?_
          refine wl (eM 35 (v := .pointer (some (ea Sa (k)))) hF hM (by kernel_rfl) (yld_ix (kd := .i64) (e := 62) (len := sizes.length) (cap := cs) (i := (k : Int)) (size := 1) (A := Sa) hF rfl (by kernel_rfl) (by kernel_rfl) (by kernel_rfl) (by kernel_rfl) (by kernel_rfl) (roK 2 rfl) (by omega) (by omega) (by rw [List.length_map]; omega)) fun a w hF hM => ?_)
          refine wl (eM 36 (v := .int .u16 (nt sizes k)) hF hM (by kernel_rfl) (yld_ro1 (A := Sa) (j := k) hF rfl (by kernel_rfl) (by kernel_rfl) (roK 2 rfl) (by kernel_rfl) (nt_at (by omega))) fun a w hF hM => ?_)
          have := all16_nt hs k
          refine wl (eP 37 (v0 := .int .i64 (IntKind.i64.wrap (nt sizes k))) (v := .int .i64 (nt sizes k)) hF (by kernel_rfl) (fun _ => by kernel_rfl) (vi (IntWalk.i64_in _ (by omega))) fun a hF => ?_)
          refine wl (eP 38 (v0 := .int .i64 (IntKind.i64.wrap (1 + nt sizes k))) (v := .int .i64 (1 + nt sizes k)) hF (by kernel_rfl) (fun _ => by kernel_rfl) (wi (by omega)) fun a hF => ?_)
          refine sB 1 [(39, .agg #[.int .i64 (gapSum gaps k + nt gaps k), .int .i64 (1 + nt sizes k)])] hF (by kernel_rfl) fun a hF => ?_
          refine wl (eN 40 5 (t := 64) (fun b => .slice (some ⟨b, 0, none⟩) 1 1) #[.int .i64 (gapSum gaps k + nt gaps k), .int .i64 (1 + nt sizes k)] hF hM (by kernel_rfl) (fun _ => by kernel_rfl) fun bb2 a w hF hM => ?_)
          refine wl (sApp 41 4 (e := 64) (size := 2) (bytes := 16) (z := .agg #[.int .i64 0, .int .i64 0]) (m := 1) (c := 1) (l := k) (cap := cap) (A := A) (news := [.int .i64 (gapSum gaps k + nt gaps k), .int .i64 (1 + nt sizes k)]) (flat2 ((drTake gaps sizes k) ++ [(gapSum gaps k + nt gaps k, 1 + nt sizes k)])) hF hM (by kernel_rfl) rfl (by kernel_rfl) (by kernel_rfl) (by kernel_rfl) rfl rfl rfl rfl (roR 5 rfl) (by simp [Value.oneCell']) (by omega) (by decide) (flat2_snoc' _ _ _) fun AA3 cc3 a w hF hM => ?_)
          refine sB 1 [(3, .slice AA3 (k + 1) cc3)] hF (by kernel_rfl) fun a hF => ?_
          refine wpList_nil ?_
          refine hK9 _ _ ?_
          refine wp_region_lit ?_
          refine sB 1 [(15, .int .i64 (k : Int))] hF (by kernel_rfl) fun a hF => ?_
          refine wl (eP 16 (v0 := .int .i64 (IntKind.i64.wrap ((k : Int) + 1))) (v := .int .i64 ((k : Int) + 1)) hF (by kernel_rfl) (fun _ => by kernel_rfl) (wi (by omega)) fun a hF => ?_)
          refine sB 1 [(5, .int .i64 ((k : Int) + 1))] hF (by kernel_rfl) fun a hF => ?_
          refine wpList_nil ?_
          have hgs : gapSum gaps (k + 1) = gapSum gaps k + nt gaps k := gap_in (by omega)
          refine hK6 _ _ ⟨(k + 1, AA3, cc3), ⟨((((((Fr.nil hF).c hF (i := 2) rfl rfl).c hF (i := 1) rfl rfl).c hF (i := 5) rfl (vi (show ((k : Int) + 1 : Int) = ((k + 1) : Int) from by omega))).c hF (i := 4) rfl (vi (show (gapSum gaps k + nt gaps k : Int) = gapSum gaps (k + 1) from by omega))).c hF (i := 3) rfl rfl), (hM.sub ((((Sub.nil.c (k := 4) rfl (congrArg (fun x => Ent.own _ _ _ _ (flat2 x)) (drTake_next _ _ _ hgs))).c (k := 3) rfl rfl).c (k := 2) rfl rfl).c (k := 1) rfl rfl)), (show ((k + 1) : Int) ≤ (sizes.length : Int) from by omega), (show ((k + 1) : Int) ≤ 30 from by omega)⟩, (show 30 - (k + 1) < 30 - k from by omega)⟩
        · skip
          replace hF := hF.c hF (i := 21) (v := .bool false) rfl (bF hz5)
          refine cF hF (by kernel_rfl) (by kernel_rfl) ?_
          refine wp_skip ?_
          refine hK10 _ _ ?_
          refine wp_region_lit ?_
          refine sB 3 [(30, .slice A k cap), (31, .int .i64 (gapSum gaps k)), (32, .pointer (some ⟨bb1, 3, none⟩))] hF (by kernel_rfl) fun a hF => ?_
          refine wl (eL 33 3 3 (v := .slice Sa sizes.length cs) hF hM (by kernel_rfl) rfl rfl (by kernel_rfl) (by kernel_rfl) fun a w hF hM => ?_)
          refine sB 1 [(34, .int .i64 (k : Int))] hF (by kernel_rfl) fun a hF => ?_
          refine wl (eM 35 (v := .pointer (some (ea Sa (k)))) hF hM (by kernel_rfl) (yld_ix (kd := .i64) (e := 62) (len := sizes.length) (cap := cs) (i := (k : Int)) (size := 1) (A := Sa) hF rfl (by kernel_rfl) (by kernel_rfl) (by kernel_rfl) (by kernel_rfl) (by kernel_rfl) (roK 2 rfl) (by omega) (by omega) (by rw [List.length_map]; omega)) fun a w hF hM => ?_)
          refine wl (eM 36 (v := .int .u16 (nt sizes k)) hF hM (by kernel_rfl) (yld_ro1 (A := Sa) (j := k) hF rfl (by kernel_rfl) (by kernel_rfl) (roK 2 rfl) (by kernel_rfl) (nt_at (by omega))) fun a w hF hM => ?_)
          have := all16_nt hs k
          refine wl (eP 37 (v0 := .int .i64 (IntKind.i64.wrap (nt sizes k))) (v := .int .i64 (nt sizes k)) hF (by kernel_rfl) (fun _ => by kernel_rfl) (vi (IntWalk.i64_in _ (by omega))) fun a hF => ?_)
          refine wl (eP 38 (v0 := .int .i64 (IntKind.i64.wrap (1 + nt sizes k))) (v := .int .i64 (1 + nt sizes k)) hF (by kernel_rfl) (fun _ => by kernel_rfl) (wi (by omega)) fun a hF => ?_)
          refine sB 1 [(39, .agg #[.int .i64 (gapSum gaps k), .int .i64 (1 + nt sizes k)])] hF (by kernel_rfl) fun a hF => ?_
          refine wl (eN 40 6 (t := 64) (fun b => .slice (some ⟨b, 0, none⟩) 1 1) #[.int .i64 (gapSum gaps k), .int .i64 (1 + nt sizes k)] hF hM (by kernel_rfl) (fun _ => by kernel_rfl) fun bb4 a w hF hM => ?_)
          refine wl (sApp 41 4 (e := 64) (size := 2) (bytes := 16) (z := .agg #[.int .i64 0, .int .i64 0]) (m := 1) (c := 1) (l := k) (cap := cap) (A := A) (news := [.int .i64 (gapSum gaps k), .int .i64 (1 + nt sizes k)]) (flat2 ((drTake gaps sizes k) ++ [(gapSum gaps k, 1 + nt sizes k)])) hF hM (by kernel_rfl) rfl (by kernel_rfl) (by kernel_rfl) (by kernel_rfl) rfl rfl rfl rfl (roR 6 rfl) (by simp [Value.oneCell']) (by omega) (by decide) (flat2_snoc' _ _ _) fun AA5 cc5 a w hF hM => ?_)
          refine sB 1 [(3, .slice AA5 (k + 1) cc5)] hF (by kernel_rfl) fun a hF => ?_
          refine wpList_nil ?_
          refine hK9 _ _ ?_
          refine wp_region_lit ?_
          refine sB 1 [(15, .int .i64 (k : Int))] hF (by kernel_rfl) fun a hF => ?_
          refine wl (eP 16 (v0 := .int .i64 (IntKind.i64.wrap ((k : Int) + 1))) (v := .int .i64 ((k : Int) + 1)) hF (by kernel_rfl) (fun _ => by kernel_rfl) (wi (by omega)) fun a hF => ?_)
          refine sB 1 [(5, .int .i64 ((k : Int) + 1))] hF (by kernel_rfl) fun a hF => ?_
          refine wpList_nil ?_
          have hgs : gapSum gaps (k + 1) = gapSum gaps k := gapSum_out (by omega)
          refine hK6 _ _ ⟨(k + 1, AA5, cc5), ⟨((((((Fr.nil hF).c hF (i := 2) rfl rfl).c hF (i := 1) rfl rfl).c hF (i := 5) rfl (vi (show ((k : Int) + 1 : Int) = ((k + 1) : Int) from by omega))).c hF (i := 4) rfl (vi (show (gapSum gaps k : Int) = gapSum gaps (k + 1) from by omega))).c hF (i := 3) rfl rfl), (hM.sub ((((Sub.nil.c (k := 4) rfl (congrArg (fun x => Ent.own _ _ _ _ (flat2 x)) (drTake_next _ _ _ hgs))).c (k := 3) rfl rfl).c (k := 2) rfl rfl).c (k := 1) rfl rfl)), (show ((k + 1) : Int) ≤ (sizes.length : Int) from by omega), (show ((k + 1) : Int) ≤ 30 from by omega)⟩, (show 30 - (k + 1) < 30 - k from by omega)⟩
      · skip
        replace hF := hF.c hF (i := 13) (v := .bool false) rfl (bF hz4)
        replace hF := hF.c hF (i := 14) (v := .bool false) rfl (bF hz4)
        refine cF hF (by kernel_rfl) (by kernel_rfl) ?_
        refine wp_exit ?_
        refine hK4 _ _ ?_
        refine wp_seq_k fun K12 hK12 => ?_
        refine wp_region_lit ?_
        refine sB 2 [(42, .slice A k cap), (2, .slice A k cap)] hF (by kernel_rfl) fun a hF => ?_
        refine wpList_nil ?_
        refine hK12 _ _ ?_
        refine wp_ret ?_
        refine hR0 _ _ ?_
        refine ret_of hF hM (.tmp rfl (.nil)) ?_
        have hk : k = min 30 sizes.length := by omega
        subst hk
        have hl := drTrace_length gaps sizes
        have ho := hM.ok 4 _ rfl
        exact ⟨_, _, by rw [hl]; rfl, by rw [hl]; exact ho, hM.bel⟩
    · skip
      refine wp_region_lit ?_
      refine sB 2 [(6, .int .i64 (k : Int)), (7, .pointer (some ⟨bb1, 3, none⟩))] hF (by kernel_rfl) fun a hF => ?_
      refine wl (eL 8 3 3 (v := .slice Sa sizes.length cs) hF hM (by kernel_rfl) rfl rfl (by kernel_rfl) (by kernel_rfl) fun a w hF hM => ?_)
      refine sB 1 [(9, .int .i64 (sizes.length : Int))] hF (by kernel_rfl) fun a hF => ?_
      refine wl (eP 10 (v0 := .bool (decide ((k : Int) < (sizes.length : Int)))) (v := .bool false) hF (by kernel_rfl) (fun _ => by kernel_rfl) (bF hz3) fun a hF => ?_)
      refine sB 4 [(11, .bool false), (12, undef), (13, undef), (14, .bool false)] hF (by kernel_rfl) fun a hF => ?_
      refine wpList_nil ?_
      refine hK8 _ _ ?_
      refine cF hF (by kernel_rfl) (by kernel_rfl) ?_
      refine wp_exit ?_
      refine hK4 _ _ ?_
      refine wp_seq_k fun K13 hK13 => ?_
      refine wp_region_lit ?_
      refine sB 2 [(42, .slice A k cap), (2, .slice A k cap)] hF (by kernel_rfl) fun a hF => ?_
      refine wpList_nil ?_
      refine hK13 _ _ ?_
      refine wp_ret ?_
      refine hR0 _ _ ?_
      refine ret_of hF hM (.tmp rfl (.nil)) ?_
      have hk : k = min 30 sizes.length := by omega
      subst hk
      have hl := drTrace_length gaps sizes
      have ho := hM.ok 4 _ rfl
      exact ⟨_, _, by rw [hl]; rfl, by rw [hl]; exact ho, hM.bel⟩

end Go.Proofs.Ytoighcbbaacnaaa
