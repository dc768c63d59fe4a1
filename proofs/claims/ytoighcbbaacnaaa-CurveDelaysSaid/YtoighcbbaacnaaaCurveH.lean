/-
  The examples of package curve.
-/
import Derived.Test.YtoighcbbaacnaaaCurveG
namespace Go.Proofs.Ytoighcbbaacnaaa
open Go.RowKit
set_option linter.unusedVariables false
set_option linter.unusedSimpArgs false

theorem rJoin4_w (ar au br bu : Int) (w0 : World) :
    Calls Try.prog 15 #[.agg #[.int .i64 ar, .int .i64 au], .agg #[.int .i64 br, .int .i64 bu]] w0 (Ret w0 (.tuple #[.agg #[.int .i64 (jnA ar au br bu), .int .i64 (jnB ar au br bu)], .int .i64 (jnE ar au br bu)])) := by
  refine enterK 32 Try.func15 rfl rfl rfl ?_
  intro a hF Q0 hR0 hN0
  have hM := Mem.start w0
  refine wp_seq_k fun K1 hK1 => ?_
  refine wp_region_lit ?_
  refine wl (eN 2 1 (t := 23) (fun b => .pointer (some ⟨b, 0, none⟩)) #[.int .i64 ar, .int .i64 au] hF hM (by kernel_rfl) (fun _ => by kernel_rfl) fun bb1 a w hF hM => ?_)
  refine wl (eN 3 2 (t := 23) (fun b => .pointer (some ⟨b, 0, none⟩)) #[.int .i64 br, .int .i64 bu] hF hM (by kernel_rfl) (fun _ => by kernel_rfl) fun bb2 a w hF hM => ?_)
  refine wl (eN 4 3 (t := 23) (fun b => .pointer (some ⟨b, 0, none⟩)) #[.int .i64 0, .int .i64 0] hF hM (by kernel_rfl) (fun _ => by kernel_rfl) fun bb3 a w hF hM => ?_)
  refine sB 1 [(5, .int .i64 0)] hF (by kernel_rfl) fun a hF => ?_
  refine wpList_nil ?_
  refine hK1 _ _ ?_
  refine wp_seq_k fun K2 hK2 => ?_
  refine wp_seq_k fun K3 hK3 => ?_
  by_cases hz1 : svE ar au = 0
  · skip
    have hz2 := svE_ok hz1
    by_cases hz3 : svE br bu = 0
    · skip
      have hz4 := svE_ok hz3
      refine wp_region_lit ?_
      refine wl (eL 7 1 0 (v := .agg #[.int .i64 ar, .int .i64 au]) hF hM (by kernel_rfl) rfl rfl (by kernel_rfl) (by kernel_rfl) fun a w hF hM => ?_)
      refine wl (eM 8 (v := .bool true) hF hM (by kernel_rfl) (yld_call (f := 37) (args := #[.agg #[.int .i64 ar, .int .i64 au]]) hF (by kernel_rfl) (fun _ => by kernel_rfl) (fun w hM => right4_yes ar au w hz1)) fun a w hF hM => ?_)
      refine sB 2 [(9, .bool false), (10, .bool false)] hF (by kernel_rfl) fun a hF => ?_
      refine wl (eL 11 2 0 (v := .agg #[.int .i64 br, .int .i64 bu]) hF hM (by kernel_rfl) rfl rfl (by kernel_rfl) (by kernel_rfl) fun a w hF hM => ?_)
      refine wl (eM 12 (v := .bool true) hF hM (by kernel_rfl) (yld_call (f := 37) (args := #[.agg #[.int .i64 br, .int .i64 bu]]) hF (by kernel_rfl) (fun _ => by kernel_rfl) (fun w hM => right4_yes br bu w hz3)) fun a w hF hM => ?_)
      refine sB 2 [(13, .bool false), (14, .bool false)] hF (by kernel_rfl) fun a hF => ?_
      refine wpList_nil ?_
      refine hK3 _ _ ?_
      refine cF hF (by kernel_rfl) (by kernel_rfl) ?_
      refine wp_skip ?_
      refine hK2 _ _ ?_
      refine wp_seq_k fun K4 hK4 => ?_
      by_cases hz5 : br < ar
      · skip
        refine wp_region_lit ?_
        refine sB 1 [(16, .pointer (some ⟨bb1, 0, none⟩))] hF (by kernel_rfl) fun a hF => ?_
        refine wl (eL 17 1 0 (v := .int .i64 ar) hF hM (by kernel_rfl) rfl rfl (by kernel_rfl) (by kernel_rfl) fun a w hF hM => ?_)
        refine sB 1 [(18, .pointer (some ⟨bb2, 0, none⟩))] hF (by kernel_rfl) fun a hF => ?_
        refine wl (eL 19 2 0 (v := .int .i64 br) hF hM (by kernel_rfl) rfl rfl (by kernel_rfl) (by kernel_rfl) fun a w hF hM => ?_)
        refine wl (eP 20 (v0 := .int .i64 (if br < ar then br else ar)) (v := .int .i64 br) hF (by kernel_rfl) (fun _ => by kernel_rfl) (vi (if_pos hz5)) fun a hF => ?_)
        refine sB 1 [(21, .pointer (some ⟨bb1, 1, none⟩))] hF (by kernel_rfl) fun a hF => ?_
        refine wl (eL 22 1 1 (v := .int .i64 au) hF hM (by kernel_rfl) rfl rfl (by kernel_rfl) (by kernel_rfl) fun a w hF hM => ?_)
        refine sB 1 [(23, .pointer (some ⟨bb2, 1, none⟩))] hF (by kernel_rfl) fun a hF => ?_
        refine wl (eL 24 2 1 (v := .int .i64 bu) hF hM (by kernel_rfl) rfl rfl (by kernel_rfl) (by kernel_rfl) fun a w hF hM => ?_)
        refine wl (eP 25 (v0 := .int .i64 (IntKind.i64.wrap (au + bu))) (v := .int .i64 (au + bu)) hF (by kernel_rfl) (fun _ => by kernel_rfl) (wi (by omega)) fun a hF => ?_)
        refine sB 1 [(26, .agg #[.int .i64 br, .int .i64 (au + bu)])] hF (by kernel_rfl) fun a hF => ?_
        refine wl (eN 6 4 (t := 23) (fun b => .pointer (some ⟨b, 0, none⟩)) #[.int .i64 0, .int .i64 0] hF hM (by kernel_rfl) (fun _ => by kernel_rfl) fun bb4 a w hF hM => ?_)
        refine wl (sStore (i := 4) (off := 0) (cs' := #[.int .i64 br, .int .i64 (au + bu)]) hF hM (by kernel_rfl) rfl rfl (by kernel_rfl) (by kernel_rfl) rfl (by kernel_rfl) fun w hM => ?_)
        refine wpList_nil ?_
        refine hK4 _ _ ?_
        refine wp_seq_k fun K5 hK5 => ?_
        refine wp_seq_k fun K6 hK6 => ?_
        by_cases hz6 : svE br (au + bu) = 0
        · skip
          have hz7 := svE_ok hz6
          refine wp_region_lit ?_
          refine wl (eL 27 4 0 (v := .agg #[.int .i64 br, .int .i64 (au + bu)]) hF hM (by kernel_rfl) rfl rfl (by kernel_rfl) (by kernel_rfl) fun a w hF hM => ?_)
          refine wl (eM 28 (v := .bool true) hF hM (by kernel_rfl) (yld_call (f := 37) (args := #[.agg #[.int .i64 br, .int .i64 (au + bu)]]) hF (by kernel_rfl) (fun _ => by kernel_rfl) (fun w hM => right4_yes br (au + bu) w hz6)) fun a w hF hM => ?_)
          refine sB 1 [(29, .bool false)] hF (by kernel_rfl) fun a hF => ?_
          refine wpList_nil ?_
          refine hK6 _ _ ?_
          refine cF hF (by kernel_rfl) (by kernel_rfl) ?_
          refine wp_skip ?_
          refine hK5 _ _ ?_
          refine wp_seq_k fun K7 hK7 => ?_
          refine wp_region_lit ?_
          refine wl (eL 31 4 0 (v := .agg #[.int .i64 br, .int .i64 (au + bu)]) hF hM (by kernel_rfl) rfl rfl (by kernel_rfl) (by kernel_rfl) fun a w hF hM => ?_)
          refine wl (sStore (i := 3) (off := 0) (cs' := #[.int .i64 br, .int .i64 (au + bu)]) hF hM (by kernel_rfl) rfl rfl (by kernel_rfl) (by kernel_rfl) rfl (by kernel_rfl) fun w hM => ?_)
          refine sB 1 [(5, .int .i64 0)] hF (by kernel_rfl) fun a hF => ?_
          refine wpList_nil ?_
          refine hK7 _ _ ?_
          refine wp_ret ?_
          refine hR0 _ _ ?_
          refine ret_of hF hM (.cell (i := 3) rfl rfl (v := .agg #[.int .i64 br, .int .i64 (au + bu)]) (by kernel_rfl) (.tmp rfl (.nil))) ?_
          have hv := svE_ok hz6
          have hd := jn_0 hz1 hz3 (by omega)
          exact ⟨ret_eq (by rw [hd.1, hd.2.1, hd.2.2, show min ar br = br from by omega]; rfl), hM.bel⟩
        · skip
          refine wp_region_lit ?_
          refine wl (eL 27 4 0 (v := .agg #[.int .i64 br, .int .i64 (au + bu)]) hF hM (by kernel_rfl) rfl rfl (by kernel_rfl) (by kernel_rfl) fun a w hF hM => ?_)
          refine wl (eM 28 (v := .bool false) hF hM (by kernel_rfl) (yld_call (f := 37) (args := #[.agg #[.int .i64 br, .int .i64 (au + bu)]]) hF (by kernel_rfl) (fun _ => by kernel_rfl) (fun w hM => right4_no br (au + bu) w hz6)) fun a w hF hM => ?_)
          refine sB 1 [(29, .bool true)] hF (by kernel_rfl) fun a hF => ?_
          refine wpList_nil ?_
          refine hK6 _ _ ?_
          refine cT hF (by kernel_rfl) (by kernel_rfl) ?_
          refine wp_seq_k fun K8 hK8 => ?_
          refine wp_region_lit ?_
          refine sB 1 [(30, .agg #[.int .i64 0, .int .i64 0])] hF (by kernel_rfl) fun a hF => ?_
          refine wl (sStore (i := 3) (off := 0) (cs' := #[.int .i64 0, .int .i64 0]) hF hM (by kernel_rfl) rfl rfl (by kernel_rfl) (by kernel_rfl) rfl (by kernel_rfl) fun w hM => ?_)
          refine sB 1 [(5, .int .i64 6)] hF (by kernel_rfl) fun a hF => ?_
          refine wpList_nil ?_
          refine hK8 _ _ ?_
          refine wp_ret ?_
          refine hR0 _ _ ?_
          refine ret_of hF hM (.cell (i := 3) rfl rfl (v := .agg #[.int .i64 0, .int .i64 0]) (by kernel_rfl) (.tmp rfl (.nil))) ?_
          have hd := jn_6 hz1 hz3 (by rcases Int.lt_or_le 268435456 (au + bu) with z | z <;> first | exact z | exact absurd (svE_yes ⟨by omega, by omega, by omega, z⟩) hz6)
          exact ⟨ret_eq (by rw [hd.1, hd.2.1, hd.2.2]; rfl), hM.bel⟩
      · skip
        refine wp_region_lit ?_
        refine sB 1 [(16, .pointer (some ⟨bb1, 0, none⟩))] hF (by kernel_rfl) fun a hF => ?_
        refine wl (eL 17 1 0 (v := .int .i64 ar) hF hM (by kernel_rfl) rfl rfl (by kernel_rfl) (by kernel_rfl) fun a w hF hM => ?_)
        refine sB 1 [(18, .pointer (some ⟨bb2, 0, none⟩))] hF (by kernel_rfl) fun a hF => ?_
        refine wl (eL 19 2 0 (v := .int .i64 br) hF hM (by kernel_rfl) rfl rfl (by kernel_rfl) (by kernel_rfl) fun a w hF hM => ?_)
        refine wl (eP 20 (v0 := .int .i64 (if br < ar then br else ar)) (v := .int .i64 ar) hF (by kernel_rfl) (fun _ => by kernel_rfl) (vi (if_neg hz5)) fun a hF => ?_)
        refine sB 1 [(21, .pointer (some ⟨bb1, 1, none⟩))] hF (by kernel_rfl) fun a hF => ?_
        refine wl (eL 22 1 1 (v := .int .i64 au) hF hM (by kernel_rfl) rfl rfl (by kernel_rfl) (by kernel_rfl) fun a w hF hM => ?_)
        refine sB 1 [(23, .pointer (some ⟨bb2, 1, none⟩))] hF (by kernel_rfl) fun a hF => ?_
        refine wl (eL 24 2 1 (v := .int .i64 bu) hF hM (by kernel_rfl) rfl rfl (by kernel_rfl) (by kernel_rfl) fun a w hF hM => ?_)
        refine wl (eP 25 (v0 := .int .i64 (IntKind.i64.wrap (au + bu))) (v := .int .i64 (au + bu)) hF (by kernel_rfl) (fun _ => by kernel_rfl) (wi (by omega)) fun a hF => ?_)
        refine sB 1 [(26, .agg #[.int .i64 ar, .int .i64 (au + bu)])] hF (by kernel_rfl) fun a hF => ?_
        refine wl (eN 6 5 (t := 23) (fun b => .pointer (some ⟨b, 0, none⟩)) #[.int .i64 0, .int .i64 0] hF hM (by kernel_rfl) (fun _ => by kernel_rfl) fun bb5 a w hF hM => ?_)
        refine wl (sStore (i := 5) (off := 0) (cs' := #[.int .i64 ar, .int .i64 (au + bu)]) hF hM (by kernel_rfl) rfl rfl (by kernel_rfl) (by kernel_rfl) rfl (by kernel_rfl) fun w hM => ?_)
        refine wpList_nil ?_
        refine hK4 _ _ ?_
        refine wp_seq_k fun K9 hK9 => ?_
        refine wp_seq_k fun K10 hK10 => ?_
        by_cases hz8 : svE ar (au + bu) = 0
        · skip
          have hz9 := svE_ok hz8
          refine wp_region_lit ?_
          refine wl (eL 27 5 0 (v := .agg #[.int .i64 ar, .int .i64 (au + bu)]) hF hM (by kernel_rfl) rfl rfl (by kernel_rfl) (by kernel_rfl) fun a w hF hM => ?_)
          refine wl (eM 28 (v := .bool true) hF hM (by kernel_rfl) (yld_call (f := 37) (args := #[.agg #[.int .i64 ar, .int .i64 (au + bu)]]) hF (by kernel_rfl) (fun _ => by kernel_rfl) (fun w hM => right4_yes ar (au + bu) w hz8)) fun a w hF hM => ?_)
          refine sB 1 [(29, .bool false)] hF (by kernel_rfl) fun a hF => ?_
          refine wpList_nil ?_
          refine hK10 _ _ ?_
          refine cF hF (by kernel_rfl) (by kernel_rfl) ?_
          refine wp_skip ?_
          refine hK9 _ _ ?_
          refine wp_seq_k fun K11 hK11 => ?_
          refine wp_region_lit ?_
          refine wl (eL 31 5 0 (v := .agg #[.int .i64 ar, .int .i64 (au + bu)]) hF hM (by kernel_rfl) rfl rfl (by kernel_rfl) (by kernel_rfl) fun a w hF hM => ?_)
          refine wl (sStore (i := 3) (off := 0) (cs' := #[.int .i64 ar, .int .i64 (au + bu)]) hF hM (by kernel_rfl) rfl rfl (by kernel_rfl) (by kernel_rfl) rfl (by kernel_rfl) fun w hM => ?_)
          refine sB 1 [(5, .int .i64 0)] hF (by kernel_rfl) fun a hF => ?_
          refine wpList_nil ?_
          refine hK11 _ _ ?_
          refine wp_ret ?_
          refine hR0 _ _ ?_
          refine ret_of hF hM (.cell (i := 3) rfl rfl (v := .agg #[.int .i64 ar, .int .i64 (au + bu)]) (by kernel_rfl) (.tmp rfl (.nil))) ?_
          have hv := svE_ok hz8
          have hd := jn_0 hz1 hz3 (by omega)
          exact ⟨ret_eq (by rw [hd.1, hd.2.1, hd.2.2, show min ar br = ar from by omega]; rfl), hM.bel⟩
        · skip
          refine wp_region_lit ?_
          refine wl (eL 27 5 0 (v := .agg #[.int .i64 ar, .int .i64 (au + bu)]) hF hM (by kernel_rfl) rfl rfl (by kernel_rfl) (by kernel_rfl) fun a w hF hM => ?_)
          refine wl (eM 28 (v := .bool false) hF hM (by kernel_rfl) (yld_call (f := 37) (args := #[.agg #[.int .i64 ar, .int .i64 (au + bu)]]) hF (by kernel_rfl) (fun _ => by kernel_rfl) (fun w hM => right4_no ar (au + bu) w hz8)) fun a w hF hM => ?_)
          refine sB 1 [(29, .bool true)] hF (by kernel_rfl) fun a hF => ?_
          refine wpList_nil ?_
          refine hK10 _ _ ?_
          refine cT hF (by kernel_rfl) (by kernel_rfl) ?_
          refine wp_seq_k fun K12 hK12 => ?_
          refine wp_region_lit ?_
          refine sB 1 [(30, .agg #[.int .i64 0, .int .i64 0])] hF (by kernel_rfl) fun a hF => ?_
          refine wl (sStore (i := 3) (off := 0) (cs' := #[.int .i64 0, .int .i64 0]) hF hM (by kernel_rfl) rfl rfl (by kernel_rfl) (by kernel_rfl) rfl (by kernel_rfl) fun w hM => ?_)
          refine sB 1 [(5, .int .i64 6)] hF (by kernel_rfl) fun a hF => ?_
          refine wpList_nil ?_
          refine hK12 _ _ ?_
          refine wp_ret ?_
          refine hR0 _ _ ?_
          refine ret_of hF hM (.cell (i := 3) rfl rfl (v := .agg #[.int .i64 0, .int .i64 0]) (by kernel_rfl) (.tmp rfl (.nil))) ?_
          have hd := jn_6 hz1 hz3 (by rcases Int.lt_or_le 268435456 (au + bu) with z | z <;> first | exact z | exact absurd (svE_yes ⟨by omega, by omega, by omega, z⟩) hz8)
          exact ⟨ret_eq (by rw [hd.1, hd.2.1, hd.2.2]; rfl), hM.bel⟩
    · skip
      refine wp_region_lit ?_
      refine wl (eL 7 1 0 (v := .agg #[.int .i64 ar, .int .i64 au]) hF hM (by kernel_rfl) rfl rfl (by kernel_rfl) (by kernel_rfl) fun a w hF hM => ?_)
      refine wl (eM 8 (v := .bool true) hF hM (by kernel_rfl) (yld_call (f := 37) (args := #[.agg #[.int .i64 ar, .int .i64 au]]) hF (by kernel_rfl) (fun _ => by kernel_rfl) (fun w hM => right4_yes ar au w hz1)) fun a w hF hM => ?_)
      refine sB 2 [(9, .bool false), (10, .bool false)] hF (by kernel_rfl) fun a hF => ?_
      refine wl (eL 11 2 0 (v := .agg #[.int .i64 br, .int .i64 bu]) hF hM (by kernel_rfl) rfl rfl (by kernel_rfl) (by kernel_rfl) fun a w hF hM => ?_)
      refine wl (eM 12 (v := .bool false) hF hM (by kernel_rfl) (yld_call (f := 37) (args := #[.agg #[.int .i64 br, .int .i64 bu]]) hF (by kernel_rfl) (fun _ => by kernel_rfl) (fun w hM => right4_no br bu w hz3)) fun a w hF hM => ?_)
      refine sB 2 [(13, .bool true), (14, .bool true)] hF (by kernel_rfl) fun a hF => ?_
      refine wpList_nil ?_
      refine hK3 _ _ ?_
      refine cT hF (by kernel_rfl) (by kernel_rfl) ?_
      refine wp_seq_k fun K13 hK13 => ?_
      refine wp_region_lit ?_
      refine sB 1 [(15, .agg #[.int .i64 0, .int .i64 0])] hF (by kernel_rfl) fun a hF => ?_
      refine wl (sStore (i := 3) (off := 0) (cs' := #[.int .i64 0, .int .i64 0]) hF hM (by kernel_rfl) rfl rfl (by kernel_rfl) (by kernel_rfl) rfl (by kernel_rfl) fun w hM => ?_)
      refine sB 1 [(5, .int .i64 140)] hF (by kernel_rfl) fun a hF => ?_
      refine wpList_nil ?_
      refine hK13 _ _ ?_
      refine wp_ret ?_
      refine hR0 _ _ ?_
      refine ret_of hF hM (.cell (i := 3) rfl rfl (v := .agg #[.int .i64 0, .int .i64 0]) (by kernel_rfl) (.tmp rfl (.nil))) ?_
      have hd := jn_bad (ar := ar) (au := au) (br := br) (bu := bu) (fun q => absurd q.2 hz3)
      exact ⟨ret_eq (by rw [hd.1, hd.2.1, hd.2.2]; rfl), hM.bel⟩
  · skip
    refine wp_region_lit ?_
    refine wl (eL 7 1 0 (v := .agg #[.int .i64 ar, .int .i64 au]) hF hM (by kernel_rfl) rfl rfl (by kernel_rfl) (by kernel_rfl) fun a w hF hM => ?_)
    refine wl (eM 8 (v := .bool false) hF hM (by kernel_rfl) (yld_call (f := 37) (args := #[.agg #[.int .i64 ar, .int .i64 au]]) hF (by kernel_rfl) (fun _ => by kernel_rfl) (fun w hM => right4_no ar au w hz1)) fun a w hF hM => ?_)
    refine sB 6 [(9, .bool true), (10, .bool true), (11, undef), (12, undef), (13, undef), (14, .bool true)] hF (by kernel_rfl) fun a hF => ?_
    refine wpList_nil ?_
    refine hK3 _ _ ?_
    refine cT hF (by kernel_rfl) (by kernel_rfl) ?_
    refine wp_seq_k fun K14 hK14 => ?_
    refine wp_region_lit ?_
    refine sB 1 [(15, .agg #[.int .i64 0, .int .i64 0])] hF (by kernel_rfl) fun a hF => ?_
    refine wl (sStore (i := 3) (off := 0) (cs' := #[.int .i64 0, .int .i64 0]) hF hM (by kernel_rfl) rfl rfl (by kernel_rfl) (by kernel_rfl) rfl (by kernel_rfl) fun w hM => ?_)
    refine sB 1 [(5, .int .i64 140)] hF (by kernel_rfl) fun a hF => ?_
    refine wpList_nil ?_
    refine hK14 _ _ ?_
    refine wp_ret ?_
    refine hR0 _ _ ?_
    refine ret_of hF hM (.cell (i := 3) rfl rfl (v := .agg #[.int .i64 0, .int .i64 0]) (by kernel_rfl) (.tmp rfl (.nil))) ?_
    have hd := jn_bad (ar := ar) (au := au) (br := br) (bu := bu) (fun q => absurd q.1 hz1)
    exact ⟨ret_eq (by rw [hd.1, hd.2.1, hd.2.2]; rfl), hM.bel⟩

set_option maxRecDepth 100000 in
set_option maxHeartbeats 8000000 in
theorem works4_w (w0 : World) :
    Calls Try.prog 18 #[] w0 (Ret w0 (.bool true)) := by
  refine enterK 109 Try.func18 rfl rfl rfl ?_
  intro a hF Q0 hR0 hN0
  have hM := Mem.start w0
  refine wp_seq_k fun K1 hK1 => ?_
  refine wp_region_lit ?_
  refine sB 1 [(0, .bool false)] hF (by kernel_rfl) fun a hF => ?_
  refine wpList_nil ?_
  refine hK1 _ _ ?_
  refine wp_seq_k fun K2 hK2 => ?_
  refine wp_region_lit ?_
  refine sB 2 [(15, .agg #[.int .i64 131072, .int .i64 100]), (16, .agg #[.int .i64 1000, .int .i64 65536])] hF (by kernel_rfl) fun a hF => ?_
  refine wl (eN 1 1 (t := 23) (fun b => .pointer (some ⟨b, 0, none⟩)) #[.int .i64 0, .int .i64 0] hF hM (by kernel_rfl) (fun _ => by kernel_rfl) fun bb1 a w hF hM => ?_)
  refine wl (eN 2 2 (t := 39) (fun b => .pointer (some ⟨b, 0, none⟩)) #[.int .i64 0, .int .i64 0] hF hM (by kernel_rfl) (fun _ => by kernel_rfl) fun bb2 a w hF hM => ?_)
  refine wl (sStore (i := 1) (off := 0) (cs' := #[.int .i64 131072, .int .i64 100]) hF hM (by kernel_rfl) rfl rfl (by kernel_rfl) (by kernel_rfl) rfl (by kernel_rfl) fun w hM => ?_)
  refine wl (sStore (i := 2) (off := 0) (cs' := #[.int .i64 1000, .int .i64 65536]) hF hM (by kernel_rfl) rfl rfl (by kernel_rfl) (by kernel_rfl) rfl (by kernel_rfl) fun w hM => ?_)
  refine wpList_nil ?_
  refine hK2 _ _ ?_
  refine wp_seq_k fun K3 hK3 => ?_
  refine wp_region_lit ?_
  refine wl (eL 17 1 0 (v := .agg #[.int .i64 131072, .int .i64 100]) hF hM (by kernel_rfl) rfl rfl (by kernel_rfl) (by kernel_rfl) fun a w hF hM => ?_)
  refine wl (eL 18 2 0 (v := .agg #[.int .i64 1000, .int .i64 65536]) hF hM (by kernel_rfl) rfl rfl (by kernel_rfl) (by kernel_rfl) fun a w hF hM => ?_)
  refine wl (eN 19 3 (t := 39) (fun b => .slice (some ⟨b, 0, none⟩) 1 1) #[.int .i64 1000, .int .i64 65536] hF hM (by kernel_rfl) (fun _ => by kernel_rfl) fun bb3 a w hF hM => ?_)
  refine wl (eM 20 (v := .bool true) hF hM (by kernel_rfl) (Yld.to (yld_call (f := 31) (args := #[.agg #[.int .i64 131072, .int .i64 100], .int .i64 8100, .slice (some ⟨bb3, 0, none⟩) 1 1]) hF (by kernel_rfl) (fun _ => by kernel_rfl) (fun w hM => delayed_w 131072 100 8100 (some ⟨bb3, 0, none⟩) [(1000, 65536)] _ w (hM.roRow (k := 3) rfl))) (by kernel_rfl)) fun a w hF hM => ?_)
  refine sB 1 [(21, .bool true)] hF (by kernel_rfl) fun a hF => ?_
  refine wl (eL 22 1 0 (v := .agg #[.int .i64 131072, .int .i64 100]) hF hM (by kernel_rfl) rfl rfl (by kernel_rfl) (by kernel_rfl) fun a w hF hM => ?_)
  refine sB 1 [(23, .agg #[.int .i64 1001, .int .i64 131072])] hF (by kernel_rfl) fun a hF => ?_
  refine wl (eN 24 4 (t := 39) (fun b => .slice (some ⟨b, 0, none⟩) 1 1) #[.int .i64 1001, .int .i64 131072] hF hM (by kernel_rfl) (fun _ => by kernel_rfl) fun bb4 a w hF hM => ?_)
  refine wl (eM 25 (v := .bool true) hF hM (by kernel_rfl) (Yld.to (yld_call (f := 31) (args := #[.agg #[.int .i64 131072, .int .i64 100], .int .i64 8108, .slice (some ⟨bb4, 0, none⟩) 1 1]) hF (by kernel_rfl) (fun _ => by kernel_rfl) (fun w hM => delayed_w 131072 100 8108 (some ⟨bb4, 0, none⟩) [(1001, 131072)] _ w (hM.roRow (k := 4) rfl))) (by kernel_rfl)) fun a w hF hM => ?_)
  refine sB 2 [(26, .bool true), (27, .bool true)] hF (by kernel_rfl) fun a hF => ?_
  refine wl (eL 28 1 0 (v := .agg #[.int .i64 131072, .int .i64 100]) hF hM (by kernel_rfl) rfl rfl (by kernel_rfl) (by kernel_rfl) fun a w hF hM => ?_)
  refine wl (eL 29 2 0 (v := .agg #[.int .i64 1000, .int .i64 65536]) hF hM (by kernel_rfl) rfl rfl (by kernel_rfl) (by kernel_rfl) fun a w hF hM => ?_)
  refine sB 1 [(30, .agg #[.int .i64 100, .int .i64 262144])] hF (by kernel_rfl) fun a hF => ?_
  refine wl (eN 31 5 (t := 39) (fun b => .slice (some ⟨b, 0, none⟩) 2 2) #[.int .i64 1000, .int .i64 65536, .int .i64 100, .int .i64 262144] hF hM (by kernel_rfl) (fun _ => by kernel_rfl) fun bb5 a w hF hM => ?_)
  refine wl (eM 32 (v := .bool true) hF hM (by kernel_rfl) (Yld.to (yld_call (f := 31) (args := #[.agg #[.int .i64 131072, .int .i64 100], .int .i64 5700, .slice (some ⟨bb5, 0, none⟩) 2 2]) hF (by kernel_rfl) (fun _ => by kernel_rfl) (fun w hM => delayed_w 131072 100 5700 (some ⟨bb5, 0, none⟩) [(1000, 65536), (100, 262144)] _ w (hM.roRow (k := 5) rfl))) (by kernel_rfl)) fun a w hF hM => ?_)
  refine sB 2 [(33, .bool true), (3, .bool true)] hF (by kernel_rfl) fun a hF => ?_
  refine wpList_nil ?_
  refine hK3 _ _ ?_
  refine wp_seq_k fun K4 hK4 => ?_
  refine wp_region_lit ?_
  refine sB 1 [(35, .agg #[.int .i64 1, .int .i64 262144])] hF (by kernel_rfl) fun a hF => ?_
  refine wl (eN 36 6 (t := 39) (fun b => .slice (some ⟨b, 0, none⟩) 1 1) #[.int .i64 1, .int .i64 262144] hF hM (by kernel_rfl) (fun _ => by kernel_rfl) fun bb6 a w hF hM => ?_)
  refine wl (eL 37 1 0 (v := .agg #[.int .i64 131072, .int .i64 100]) hF hM (by kernel_rfl) rfl rfl (by kernel_rfl) (by kernel_rfl) fun a w hF hM => ?_)
  refine wl (eM 38 (v := .tuple #[.int .i64 0, .int .i64 141]) hF hM (by kernel_rfl) (Yld.to (yld_call (f := 20) (args := #[.slice (some ⟨bb6, 0, none⟩) 1 1, .agg #[.int .i64 131072, .int .i64 100]]) hF (by kernel_rfl) (fun _ => by kernel_rfl) (fun w hM => delay_w 131072 100 (some ⟨bb6, 0, none⟩) [(1, 262144)] _ w (hM.roRow (k := 6) rfl))) (by kernel_rfl)) fun a w hF hM => ?_)
  refine sB 5 [(34, .tuple #[.int .i64 0, .int .i64 141]), (39, .int .i64 0), (40, .int .i64 141), (4, .int .i64 0), (5, .int .i64 141)] hF (by kernel_rfl) fun a hF => ?_
  refine wpList_nil ?_
  refine hK4 _ _ ?_
  refine wp_seq_k fun K5 hK5 => ?_
  refine wp_region_lit ?_
  refine wl (eL 42 2 0 (v := .agg #[.int .i64 1000, .int .i64 65536]) hF hM (by kernel_rfl) rfl rfl (by kernel_rfl) (by kernel_rfl) fun a w hF hM => ?_)
  refine wl (eL 43 1 0 (v := .agg #[.int .i64 131072, .int .i64 100]) hF hM (by kernel_rfl) rfl rfl (by kernel_rfl) (by kernel_rfl) fun a w hF hM => ?_)
  refine wl (eM 44 (v := .tuple #[.int .i64 1007, .int .i64 0]) hF hM (by kernel_rfl) (Yld.to (yld_call (f := 22) (args := #[.agg #[.int .i64 1000, .int .i64 65536], .agg #[.int .i64 131072, .int .i64 100]]) hF (by kernel_rfl) (fun _ => by kernel_rfl) (fun w hM => backlog_w 1000 65536 131072 100 w)) (by kernel_rfl)) fun a w hF hM => ?_)
  refine sB 5 [(41, .tuple #[.int .i64 1007, .int .i64 0]), (45, .int .i64 1007), (46, .int .i64 0), (6, .int .i64 1007), (7, .int .i64 0)] hF (by kernel_rfl) fun a hF => ?_
  refine wpList_nil ?_
  refine hK5 _ _ ?_
  refine wp_seq_k fun K6 hK6 => ?_
  refine wp_region_lit ?_
  refine wl (eL 48 2 0 (v := .agg #[.int .i64 1000, .int .i64 65536]) hF hM (by kernel_rfl) rfl rfl (by kernel_rfl) (by kernel_rfl) fun a w hF hM => ?_)
  refine wl (eL 49 1 0 (v := .agg #[.int .i64 131072, .int .i64 100]) hF hM (by kernel_rfl) rfl rfl (by kernel_rfl) (by kernel_rfl) fun a w hF hM => ?_)
  refine wl (eM 50 (v := .tuple #[.agg #[.int .i64 1507, .int .i64 65536], .int .i64 0]) hF hM (by kernel_rfl) (Yld.to (yld_call (f := 24) (args := #[.agg #[.int .i64 1000, .int .i64 65536], .agg #[.int .i64 131072, .int .i64 100]]) hF (by kernel_rfl) (fun _ => by kernel_rfl) (fun w hM => output_w 1000 65536 131072 100 w)) (by kernel_rfl)) fun a w hF hM => ?_)
  refine sB 3 [(47, .tuple #[.agg #[.int .i64 1507, .int .i64 65536], .int .i64 0]), (51, .agg #[.int .i64 1507, .int .i64 65536]), (52, .int .i64 0)] hF (by kernel_rfl) fun a hF => ?_
  refine wl (eN 8 7 (t := 39) (fun b => .pointer (some ⟨b, 0, none⟩)) #[.int .i64 0, .int .i64 0] hF hM (by kernel_rfl) (fun _ => by kernel_rfl) fun bb7 a w hF hM => ?_)
  refine wl (sStore (i := 7) (off := 0) (cs' := #[.int .i64 1507, .int .i64 65536]) hF hM (by kernel_rfl) rfl rfl (by kernel_rfl) (by kernel_rfl) rfl (by kernel_rfl) fun w hM => ?_)
  refine sB 1 [(9, .int .i64 0)] hF (by kernel_rfl) fun a hF => ?_
  refine wpList_nil ?_
  refine hK6 _ _ ?_
  refine wp_seq_k fun K7 hK7 => ?_
  refine wp_region_lit ?_
  refine wl (eL 54 1 0 (v := .agg #[.int .i64 131072, .int .i64 100]) hF hM (by kernel_rfl) rfl rfl (by kernel_rfl) (by kernel_rfl) fun a w hF hM => ?_)
  refine sB 1 [(55, .agg #[.int .i64 65536, .int .i64 5])] hF (by kernel_rfl) fun a hF => ?_
  refine wl (eM 56 (v := .tuple #[.agg #[.int .i64 65536, .int .i64 105], .int .i64 0]) hF hM (by kernel_rfl) (Yld.to (yld_call (f := 14) (args := #[.agg #[.int .i64 131072, .int .i64 100], .agg #[.int .i64 65536, .int .i64 5]]) hF (by kernel_rfl) (fun _ => by kernel_rfl) (fun w hM => join_w 131072 100 65536 5 w)) (by kernel_rfl)) fun a w hF hM => ?_)
  refine sB 3 [(53, .tuple #[.agg #[.int .i64 65536, .int .i64 105], .int .i64 0]), (57, .agg #[.int .i64 65536, .int .i64 105]), (58, .int .i64 0)] hF (by kernel_rfl) fun a hF => ?_
  refine wl (eN 10 8 (t := 23) (fun b => .pointer (some ⟨b, 0, none⟩)) #[.int .i64 0, .int .i64 0] hF hM (by kernel_rfl) (fun _ => by kernel_rfl) fun bb8 a w hF hM => ?_)
  refine wl (sStore (i := 8) (off := 0) (cs' := #[.int .i64 65536, .int .i64 105]) hF hM (by kernel_rfl) rfl rfl (by kernel_rfl) (by kernel_rfl) rfl (by kernel_rfl) fun w hM => ?_)
  refine sB 1 [(11, .int .i64 0)] hF (by kernel_rfl) fun a hF => ?_
  refine wpList_nil ?_
  refine hK7 _ _ ?_
  refine wp_seq_k fun K8 hK8 => ?_
  refine wp_region_lit ?_
  refine sB 3 [(60, .agg #[.int .i64 0, .int .i64 100]), (61, .agg #[.int .i64 10, .int .i64 50]), (62, .agg #[.int .i64 2000, .int .i64 1])] hF (by kernel_rfl) fun a hF => ?_
  refine wl (eN 63 9 (t := 64) (fun b => .slice (some ⟨b, 0, none⟩) 3 3) #[.int .i64 0, .int .i64 100, .int .i64 10, .int .i64 50, .int .i64 2000, .int .i64 1] hF hM (by kernel_rfl) (fun _ => by kernel_rfl) fun bb9 a w hF hM => ?_)
  refine wl (eL 64 1 0 (v := .agg #[.int .i64 131072, .int .i64 100]) hF hM (by kernel_rfl) rfl rfl (by kernel_rfl) (by kernel_rfl) fun a w hF hM => ?_)
  refine wl (sOwn 10 (f := 27) (args := #[.slice (some ⟨bb9, 0, none⟩) 3 3, .agg #[.int .i64 131072, .int .i64 100]]) (mk := fun v => .tuple #[v, .int .i64 0]) (e := 3) (size := 1) (m := 3) (xs := (([900, 1300, 2108]).map (Value.int .i64))) hF hM (by kernel_rfl) rfl (by decide) (by kernel_rfl) (fun _ => by kernel_rfl) (drain_lit (by decide : drL 131072 100 [(0, 100), (10, 50), (2000, 1)] 3 = [900, 1300, 2108]) (drain_ok 131072 100 (some ⟨bb9, 0, none⟩) [(0, 100), (10, 50), (2000, 1)] _ w (hM.roRow (k := 9) rfl) (by decide) (by decide))) fun AA10 cc10 a w hF hM => ?_)
  refine sB 5 [(59, .tuple #[.slice AA10 3 cc10, .int .i64 0]), (66, .slice AA10 3 cc10), (67, .int .i64 0), (12, .slice AA10 3 cc10), (13, .int .i64 0)] hF (by kernel_rfl) fun a hF => ?_
  refine wpList_nil ?_
  refine hK8 _ _ ?_
  refine wp_seq_k fun K9 hK9 => ?_
  refine wp_region_lit ?_
  refine sB 1 [(68, .int .i64 141)] hF (by kernel_rfl) fun a hF => ?_
  refine wl (eP 69 (v0 := .bool (decide (141 = 141))) (v := .bool true) hF (by kernel_rfl) (fun _ => by kernel_rfl) (bT (by omega)) fun a hF => ?_)
  refine sB 2 [(70, .bool true), (71, .int .i64 0)] hF (by kernel_rfl) fun a hF => ?_
  refine wl (eP 72 (v0 := .bool (decide (0 = 0))) (v := .bool true) hF (by kernel_rfl) (fun _ => by kernel_rfl) (bT (by omega)) fun a hF => ?_)
  refine sB 3 [(73, .bool true), (74, .bool true), (75, .int .i64 0)] hF (by kernel_rfl) fun a hF => ?_
  refine wl (eP 76 (v0 := .bool (decide (0 = 0))) (v := .bool true) hF (by kernel_rfl) (fun _ => by kernel_rfl) (bT (by omega)) fun a hF => ?_)
  refine sB 3 [(77, .bool true), (78, .bool true), (79, .int .i64 0)] hF (by kernel_rfl) fun a hF => ?_
  refine wl (eP 80 (v0 := .bool (decide (0 = 0))) (v := .bool true) hF (by kernel_rfl) (fun _ => by kernel_rfl) (bT (by omega)) fun a hF => ?_)
  refine sB 3 [(81, .bool true), (82, .bool true), (83, .int .i64 0)] hF (by kernel_rfl) fun a hF => ?_
  refine wl (eP 84 (v0 := .bool (decide (0 = 0))) (v := .bool true) hF (by kernel_rfl) (fun _ => by kernel_rfl) (bT (by omega)) fun a hF => ?_)
  refine sB 2 [(85, .bool true), (14, .bool true)] hF (by kernel_rfl) fun a hF => ?_
  refine wpList_nil ?_
  refine hK9 _ _ ?_
  refine wp_seq_k fun K10 hK10 => ?_
  refine wp_region_lit ?_
  refine sB 6 [(86, .bool true), (87, .bool true), (88, .bool true), (89, .bool true), (90, .bool true), (91, .int .i64 1007)] hF (by kernel_rfl) fun a hF => ?_
  refine wl (eP 92 (v0 := .bool (decide (1007 = 1007))) (v := .bool true) hF (by kernel_rfl) (fun _ => by kernel_rfl) (bT (by omega)) fun a hF => ?_)
  refine sB 2 [(93, .bool true), (94, .bool true)] hF (by kernel_rfl) fun a hF => ?_
  refine wl (eL 95 7 0 (v := .agg #[.int .i64 1507, .int .i64 65536]) hF hM (by kernel_rfl) rfl rfl (by kernel_rfl) (by kernel_rfl) fun a w hF hM => ?_)
  refine sB 1 [(96, .agg #[.int .i64 1507, .int .i64 65536])] hF (by kernel_rfl) fun a hF => ?_
  refine wl (eM 97 (v := .bool true) hF hM (by kernel_rfl) ((yld_eql (C := Mem _ _ _) [1507, 65536] [1507, 65536] hF rfl (by kernel_rfl) (by kernel_rfl) (by kernel_rfl) rfl (by kernel_rfl) (by kernel_rfl) (by kernel_rfl) rfl rfl).to (bT (by decide))) fun a w hF hM => ?_)
  refine sB 2 [(98, .bool true), (99, .bool true)] hF (by kernel_rfl) fun a hF => ?_
  refine wl (eL 100 8 0 (v := .agg #[.int .i64 65536, .int .i64 105]) hF hM (by kernel_rfl) rfl rfl (by kernel_rfl) (by kernel_rfl) fun a w hF hM => ?_)
  refine sB 1 [(101, .agg #[.int .i64 65536, .int .i64 105])] hF (by kernel_rfl) fun a hF => ?_
  refine wl (eM 102 (v := .bool true) hF hM (by kernel_rfl) ((yld_eql (C := Mem _ _ _) [65536, 105] [65536, 105] hF rfl (by kernel_rfl) (by kernel_rfl) (by kernel_rfl) rfl (by kernel_rfl) (by kernel_rfl) (by kernel_rfl) rfl rfl).to (bT (by decide))) fun a w hF hM => ?_)
  refine sB 3 [(103, .bool true), (104, .bool true), (105, .slice AA10 3 cc10)] hF (by kernel_rfl) fun a hF => ?_
  refine wl (eN 106 11 (t := 3) (fun b => .slice (some ⟨b, 0, none⟩) 3 3) #[.int .i64 900, .int .i64 1300, .int .i64 2108] hF hM (by kernel_rfl) (fun _ => by kernel_rfl) fun bb11 a w hF hM => ?_)
  refine wl (eM 107 (v := .bool true) hF hM (by kernel_rfl) (yld_call (f := 29) (args := #[.slice AA10 3 cc10, .slice (some ⟨bb11, 0, none⟩) 3 3]) hF (by kernel_rfl) (fun _ => by kernel_rfl) (fun w hM => same_yes AA10 ([900, 1300, 2108]) cc10 (some ⟨bb11, 0, none⟩) [900, 1300, 2108] 3 w (ro_of_own (hM.ok 10 _ rfl)) (hM.roRow (k := 11) rfl) (by decide) (by decide))) fun a w hF hM => ?_)
  refine sB 2 [(108, .bool true), (0, .bool true)] hF (by kernel_rfl) fun a hF => ?_
  refine wpList_nil ?_
  refine hK10 _ _ ?_
  refine wp_ret ?_
  refine hR0 _ _ ?_
  refine ret_of hF hM (.tmp rfl (.nil)) ?_
  exact ⟨rfl, hM.bel⟩

end Go.Proofs.Ytoighcbbaacnaaa
