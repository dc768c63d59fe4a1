/-
  The walk of CurveJoins.
-/
import Derived.Test.YtoighcbbaacnaaaCurveI
namespace Go.Proofs.Ytoighcbbaacnaaa
open Go.RowKit
set_option linter.unusedVariables false
set_option linter.unusedSimpArgs false

set_option maxRecDepth 100000 in
set_option maxHeartbeats 8000000 in
theorem curveJoins_walk (bu ra n0 n1 la lb : Int) (g s : Value) (w0 : World) (h : 0 ≤ bu ∧ bu < 4294967296 ∧ 0 ≤ ra ∧ ra < 4294967296 ∧ 0 ≤ n0 ∧ n0 < 4294967296 ∧ 0 ≤ n1 ∧ n1 < 4294967296 ∧ 0 ≤ la ∧ la ≤ 65535 ∧ 0 ≤ lb ∧ lb ≤ 65535) :
    Calls Try.prog 9 #[.agg #[.int .u32 bu, .int .u32 ra, g, s], .agg #[.int .u32 n0, .int .u32 n1], .agg #[.int .u16 la, .int .u16 lb]] w0 (Ret w0 (.bool true)) := by
  obtain ⟨xb, hxb⟩ : ∃ z : Int, 1 + bu % 1048576 = z := ⟨_, rfl⟩
  obtain ⟨xq, hxq⟩ : ∃ z : Int, 1 + ra % 2097152 = z := ⟨_, rfl⟩
  have hbk : bkE xb xq = 0 := by unfold bkE; rw [if_pos]; omega
  obtain ⟨sr, hsr⟩ : ∃ z : Int, min 2097152 (xq + n0 % 262144) = z := ⟨_, rfl⟩
  obtain ⟨sv, hsv⟩ : ∃ z : Int, min 2097152 (xq + n1 % 262144) = z := ⟨_, rfl⟩
  obtain ⟨mi, hmi⟩ : ∃ z : Int, min sr sv = z := ⟨_, rfl⟩
  have v1 : svE sr la = 0 := svE_yes (by omega)
  have v2 : svE sv lb = 0 := svE_yes (by omega)
  have v3 : svE mi (la + lb) = 0 := svE_yes (by omega)
  have k1 := cs_0 (b := xb) (q := xq) hbk v1 (by omega)
  have k2 := cs_0 (b := xb) (q := xq) hbk v2 (by omega)
  have k3 := cs_0 (b := xb) (q := xq) hbk v3 (by omega)
  have j1 := jn_0 v1 v2 (by omega)
  have j2 := jn_0 v2 v1 (by omega)
  rw [hmi] at j1
  rw [show min sv sr = mi by omega, show lb + la = la + lb by omega] at j2
  have a1 := cq_anti (n := xb * 1048576) (d := mi) (e := sr) (by omega) (by omega) (by omega)
  have a2 := cq_anti (n := xb * 1048576) (d := mi) (e := sv) (by omega) (by omega) (by omega)
  have b1 := cq_in (n := xb * 1048576) (d := sr) (B := 1099511627776) (by omega) (by omega) (by omega)
  have b2 := cq_in (n := xb * 1048576) (d := sv) (B := 1099511627776) (by omega) (by omega) (by omega)
  have b3 := cq_in (n := xb * 1048576) (d := mi) (B := 1099511627776) (by omega) (by omega) (by omega)
  have m3 : cq (xb * 1048576) mi ≤ cq (xb * 1048576) sr + cq (xb * 1048576) sv := by rcases (show mi = sr ∨ mi = sv by omega) with e | e <;> rw [e] <;> omega
  obtain ⟨c1, hc1⟩ : ∃ z : Int, cq (xb * 1048576) sr = z := ⟨_, rfl⟩
  obtain ⟨c2, hc2⟩ : ∃ z : Int, cq (xb * 1048576) sv = z := ⟨_, rfl⟩
  obtain ⟨c3, hc3⟩ : ∃ z : Int, cq (xb * 1048576) mi = z := ⟨_, rfl⟩
  rw [hc1] at a1 b1 m3
  rw [hc2] at a2 b2 m3
  rw [hc3] at a1 a2 b3 m3
  refine enterK 121 Try.func9 rfl rfl rfl ?_
  intro a hF Q0 hR0 hN0
  have hM := Mem.start w0
  refine wp_seq_k fun K1 hK1 => ?_
  refine wp_region_lit ?_
  refine wl (eN 3 1 (t := 42) (fun b => .pointer (some ⟨b, 0, none⟩)) #[.int .u32 bu, .int .u32 ra, g, s] hF hM (by kernel_rfl) (fun _ => by kernel_rfl) fun bb1 a w hF hM => ?_)
  refine wl (eN 4 2 (t := 37) (fun b => .pointer (some ⟨b, 0, none⟩)) #[.int .u32 n0, .int .u32 n1] hF hM (by kernel_rfl) (fun _ => by kernel_rfl) fun bb2 a w hF hM => ?_)
  refine wl (eN 5 3 (t := 66) (fun b => .pointer (some ⟨b, 0, none⟩)) #[.int .u16 la, .int .u16 lb] hF hM (by kernel_rfl) (fun _ => by kernel_rfl) fun bb3 a w hF hM => ?_)
  refine sB 1 [(6, .bool false)] hF (by kernel_rfl) fun a hF => ?_
  refine wpList_nil ?_
  refine hK1 _ _ ?_
  refine wp_seq_k fun K2 hK2 => ?_
  refine wp_seq_k fun K3 hK3 => ?_
  refine wp_region_lit ?_
  refine wl (eM 20 (v := .bool true) hF hM (by kernel_rfl) (yld_call (f := 18) (args := #[]) hF (by kernel_rfl) (fun _ => by kernel_rfl) (fun w hM => works4_w w)) fun a w hF hM => ?_)
  refine sB 1 [(21, .bool false)] hF (by kernel_rfl) fun a hF => ?_
  refine wpList_nil ?_
  refine hK3 _ _ ?_
  refine cF hF (by kernel_rfl) (by kernel_rfl) ?_
  refine wp_skip ?_
  refine hK2 _ _ ?_
  refine wp_seq_k fun K4 hK4 => ?_
  refine wp_region_lit ?_
  refine wl (eL 22 1 0 (v := .agg #[.int .u32 bu, .int .u32 ra, g, s]) hF hM (by kernel_rfl) rfl rfl (by kernel_rfl) (by kernel_rfl) fun a w hF hM => ?_)
  refine wl (eM 23 (v := .agg #[.int .i64 xb, .int .i64 xq]) hF hM (by kernel_rfl) (yld_call (f := 19) (args := #[.agg #[.int .u32 bu, .int .u32 ra, g, s]]) hF (by kernel_rfl) (fun _ => by kernel_rfl) (fun w hM => agg_to hxb hxq (draftBucket_w bu ra (g) (s) w (by omega)))) fun a w hF hM => ?_)
  refine wl (eN 7 4 (t := 39) (fun b => .pointer (some ⟨b, 0, none⟩)) #[.int .i64 0, .int .i64 0] hF hM (by kernel_rfl) (fun _ => by kernel_rfl) fun bb4 a w hF hM => ?_)
  refine wl (sStore (i := 4) (off := 0) (cs' := #[.int .i64 xb, .int .i64 xq]) hF hM (by kernel_rfl) rfl rfl (by kernel_rfl) (by kernel_rfl) rfl (by kernel_rfl) fun w hM => ?_)
  refine wpList_nil ?_
  refine hK4 _ _ ?_
  refine wp_seq_k fun K5 hK5 => ?_
  refine wp_region_lit ?_
  refine sB 1 [(24, .pointer (some ⟨bb4, 1, none⟩))] hF (by kernel_rfl) fun a hF => ?_
  refine wl (eL 25 4 1 (v := .int .i64 xq) hF hM (by kernel_rfl) rfl rfl (by kernel_rfl) (by kernel_rfl) fun a w hF hM => ?_)
  refine sB 1 [(26, .pointer (some ⟨bb2, 0, none⟩))] hF (by kernel_rfl) fun a hF => ?_
  refine wl (eL 27 2 0 (v := .int .u32 n0) hF hM (by kernel_rfl) rfl rfl (by kernel_rfl) (by kernel_rfl) fun a w hF hM => ?_)
  refine wl (eM 28 (v := .int .u32 (n0 % 262144)) hF hM (by kernel_rfl) (yld_rem n0 262144 hF rfl (by kernel_rfl) (by kernel_rfl) (by kernel_rfl) (by decide) (Int.tmod_eq_emod_of_nonneg (by omega))) fun a w hF hM => ?_)
  refine wl (eP 29 (v0 := .int .i64 (IntKind.i64.wrap (n0 % 262144))) (v := .int .i64 (n0 % 262144)) hF (by kernel_rfl) (fun _ => by kernel_rfl) (vi (IntWalk.i64_in _ (by omega))) fun a hF => ?_)
  refine wl (eP 30 (v0 := .int .i64 (IntKind.i64.wrap (xq + n0 % 262144))) (v := .int .i64 (xq + n0 % 262144)) hF (by kernel_rfl) (fun _ => by kernel_rfl) (wi (by omega)) fun a hF => ?_)
  refine wl (eP 31 (v0 := .int .i64 (if xq + n0 % 262144 < 2097152 then xq + n0 % 262144 else 2097152)) (v := .int .i64 sr) hF (by kernel_rfl) (fun _ => by kernel_rfl) (vi (by rw [← hsr]; exact (min_if _ _))) fun a hF => ?_)
  refine sB 1 [(32, .pointer (some ⟨bb3, 0, none⟩))] hF (by kernel_rfl) fun a hF => ?_
  refine wl (eL 33 3 0 (v := .int .u16 la) hF hM (by kernel_rfl) rfl rfl (by kernel_rfl) (by kernel_rfl) fun a w hF hM => ?_)
  refine wl (eP 34 (v0 := .int .i64 (IntKind.i64.wrap la)) (v := .int .i64 la) hF (by kernel_rfl) (fun _ => by kernel_rfl) (vi (IntWalk.i64_in _ (by omega))) fun a hF => ?_)
  refine sB 1 [(35, .agg #[.int .i64 sr, .int .i64 la])] hF (by kernel_rfl) fun a hF => ?_
  refine wl (eN 8 5 (t := 23) (fun b => .pointer (some ⟨b, 0, none⟩)) #[.int .i64 0, .int .i64 0] hF hM (by kernel_rfl) (fun _ => by kernel_rfl) fun bb5 a w hF hM => ?_)
  refine wl (sStore (i := 5) (off := 0) (cs' := #[.int .i64 sr, .int .i64 la]) hF hM (by kernel_rfl) rfl rfl (by kernel_rfl) (by kernel_rfl) rfl (by kernel_rfl) fun w hM => ?_)
  refine wpList_nil ?_
  refine hK5 _ _ ?_
  refine wp_seq_k fun K6 hK6 => ?_
  refine wp_region_lit ?_
  refine sB 1 [(36, .pointer (some ⟨bb4, 1, none⟩))] hF (by kernel_rfl) fun a hF => ?_
  refine wl (eL 37 4 1 (v := .int .i64 xq) hF hM (by kernel_rfl) rfl rfl (by kernel_rfl) (by kernel_rfl) fun a w hF hM => ?_)
  refine sB 1 [(38, .pointer (some ⟨bb2, 1, none⟩))] hF (by kernel_rfl) fun a hF => ?_
  refine wl (eL 39 2 1 (v := .int .u32 n1) hF hM (by kernel_rfl) rfl rfl (by kernel_rfl) (by kernel_rfl) fun a w hF hM => ?_)
  refine wl (eM 40 (v := .int .u32 (n1 % 262144)) hF hM (by kernel_rfl) (yld_rem n1 262144 hF rfl (by kernel_rfl) (by kernel_rfl) (by kernel_rfl) (by decide) (Int.tmod_eq_emod_of_nonneg (by omega))) fun a w hF hM => ?_)
  refine wl (eP 41 (v0 := .int .i64 (IntKind.i64.wrap (n1 % 262144))) (v := .int .i64 (n1 % 262144)) hF (by kernel_rfl) (fun _ => by kernel_rfl) (vi (IntWalk.i64_in _ (by omega))) fun a hF => ?_)
  refine wl (eP 42 (v0 := .int .i64 (IntKind.i64.wrap (xq + n1 % 262144))) (v := .int .i64 (xq + n1 % 262144)) hF (by kernel_rfl) (fun _ => by kernel_rfl) (wi (by omega)) fun a hF => ?_)
  refine wl (eP 43 (v0 := .int .i64 (if xq + n1 % 262144 < 2097152 then xq + n1 % 262144 else 2097152)) (v := .int .i64 sv) hF (by kernel_rfl) (fun _ => by kernel_rfl) (vi (by rw [← hsv]; exact (min_if _ _))) fun a hF => ?_)
  refine sB 1 [(44, .pointer (some ⟨bb3, 1, none⟩))] hF (by kernel_rfl) fun a hF => ?_
  refine wl (eL 45 3 1 (v := .int .u16 lb) hF hM (by kernel_rfl) rfl rfl (by kernel_rfl) (by kernel_rfl) fun a w hF hM => ?_)
  refine wl (eP 46 (v0 := .int .i64 (IntKind.i64.wrap lb)) (v := .int .i64 lb) hF (by kernel_rfl) (fun _ => by kernel_rfl) (vi (IntWalk.i64_in _ (by omega))) fun a hF => ?_)
  refine sB 1 [(47, .agg #[.int .i64 sv, .int .i64 lb])] hF (by kernel_rfl) fun a hF => ?_
  refine wl (eN 9 6 (t := 23) (fun b => .pointer (some ⟨b, 0, none⟩)) #[.int .i64 0, .int .i64 0] hF hM (by kernel_rfl) (fun _ => by kernel_rfl) fun bb6 a w hF hM => ?_)
  refine wl (sStore (i := 6) (off := 0) (cs' := #[.int .i64 sv, .int .i64 lb]) hF hM (by kernel_rfl) rfl rfl (by kernel_rfl) (by kernel_rfl) rfl (by kernel_rfl) fun w hM => ?_)
  refine wpList_nil ?_
  refine hK6 _ _ ?_
  refine wp_seq_k fun K7 hK7 => ?_
  refine wp_region_lit ?_
  refine wl (eL 49 5 0 (v := .agg #[.int .i64 sr, .int .i64 la]) hF hM (by kernel_rfl) rfl rfl (by kernel_rfl) (by kernel_rfl) fun a w hF hM => ?_)
  refine wl (eL 50 6 0 (v := .agg #[.int .i64 sv, .int .i64 lb]) hF hM (by kernel_rfl) rfl rfl (by kernel_rfl) (by kernel_rfl) fun a w hF hM => ?_)
  refine wl (eM 51 (v := .tuple #[.agg #[.int .i64 mi, .int .i64 (la + lb)], .int .i64 0]) hF hM (by kernel_rfl) (yld_call (f := 14) (args := #[.agg #[.int .i64 sr, .int .i64 la], .agg #[.int .i64 sv, .int .i64 lb]]) hF (by kernel_rfl) (fun _ => by kernel_rfl) (fun w hM => jn_to j1 (join_w sr la sv lb w))) fun a w hF hM => ?_)
  refine sB 3 [(48, .tuple #[.agg #[.int .i64 mi, .int .i64 (la + lb)], .int .i64 0]), (52, .agg #[.int .i64 mi, .int .i64 (la + lb)]), (53, .int .i64 0)] hF (by kernel_rfl) fun a hF => ?_
  refine wl (eN 10 7 (t := 23) (fun b => .pointer (some ⟨b, 0, none⟩)) #[.int .i64 0, .int .i64 0] hF hM (by kernel_rfl) (fun _ => by kernel_rfl) fun bb7 a w hF hM => ?_)
  refine wl (sStore (i := 7) (off := 0) (cs' := #[.int .i64 mi, .int .i64 (la + lb)]) hF hM (by kernel_rfl) rfl rfl (by kernel_rfl) (by kernel_rfl) rfl (by kernel_rfl) fun w hM => ?_)
  refine sB 1 [(11, .int .i64 0)] hF (by kernel_rfl) fun a hF => ?_
  refine wpList_nil ?_
  refine hK7 _ _ ?_
  refine wp_seq_k fun K8 hK8 => ?_
  refine wp_region_lit ?_
  refine wl (eL 55 6 0 (v := .agg #[.int .i64 sv, .int .i64 lb]) hF hM (by kernel_rfl) rfl rfl (by kernel_rfl) (by kernel_rfl) fun a w hF hM => ?_)
  refine wl (eL 56 5 0 (v := .agg #[.int .i64 sr, .int .i64 la]) hF hM (by kernel_rfl) rfl rfl (by kernel_rfl) (by kernel_rfl) fun a w hF hM => ?_)
  refine wl (eM 57 (v := .tuple #[.agg #[.int .i64 mi, .int .i64 (la + lb)], .int .i64 0]) hF hM (by kernel_rfl) (yld_call (f := 14) (args := #[.agg #[.int .i64 sv, .int .i64 lb], .agg #[.int .i64 sr, .int .i64 la]]) hF (by kernel_rfl) (fun _ => by kernel_rfl) (fun w hM => jn_to j2 (join_w sv lb sr la w))) fun a w hF hM => ?_)
  refine sB 3 [(54, .tuple #[.agg #[.int .i64 mi, .int .i64 (la + lb)], .int .i64 0]), (58, .agg #[.int .i64 mi, .int .i64 (la + lb)]), (59, .int .i64 0)] hF (by kernel_rfl) fun a hF => ?_
  refine wl (eN 12 8 (t := 23) (fun b => .pointer (some ⟨b, 0, none⟩)) #[.int .i64 0, .int .i64 0] hF hM (by kernel_rfl) (fun _ => by kernel_rfl) fun bb8 a w hF hM => ?_)
  refine wl (sStore (i := 8) (off := 0) (cs' := #[.int .i64 mi, .int .i64 (la + lb)]) hF hM (by kernel_rfl) rfl rfl (by kernel_rfl) (by kernel_rfl) rfl (by kernel_rfl) fun w hM => ?_)
  refine sB 1 [(13, .int .i64 0)] hF (by kernel_rfl) fun a hF => ?_
  refine wpList_nil ?_
  refine hK8 _ _ ?_
  refine wp_seq_k fun K9 hK9 => ?_
  refine wp_region_lit ?_
  refine wl (eL 61 4 0 (v := .agg #[.int .i64 xb, .int .i64 xq]) hF hM (by kernel_rfl) rfl rfl (by kernel_rfl) (by kernel_rfl) fun a w hF hM => ?_)
  refine wl (eN 62 9 (t := 39) (fun b => .slice (some ⟨b, 0, none⟩) 1 1) #[.int .i64 xb, .int .i64 xq] hF hM (by kernel_rfl) (fun _ => by kernel_rfl) fun bb9 a w hF hM => ?_)
  refine wl (eL 63 5 0 (v := .agg #[.int .i64 sr, .int .i64 la]) hF hM (by kernel_rfl) rfl rfl (by kernel_rfl) (by kernel_rfl) fun a w hF hM => ?_)
  refine wl (eM 64 (v := .tuple #[.int .i64 (la + c1), .int .i64 0]) hF hM (by kernel_rfl) (yld_call (f := 20) (args := #[.slice (some ⟨bb9, 0, none⟩) 1 1, .agg #[.int .i64 sr, .int .i64 la]]) hF (by kernel_rfl) (fun _ => by kernel_rfl) (fun w hM => dl_to ⟨(dl_one k1).1, (dl_one k1).2.trans (by rw [hc1])⟩ (delay_w sr la (some ⟨bb9, 0, none⟩) [(xb, xq)] _ w (hM.roRow (k := 9) rfl)))) fun a w hF hM => ?_)
  refine sB 5 [(60, .tuple #[.int .i64 (la + c1), .int .i64 0]), (65, .int .i64 (la + c1)), (66, .int .i64 0), (14, .int .i64 (la + c1)), (15, .int .i64 0)] hF (by kernel_rfl) fun a hF => ?_
  refine wpList_nil ?_
  refine hK9 _ _ ?_
  refine wp_seq_k fun K10 hK10 => ?_
  refine wp_region_lit ?_
  refine wl (eL 68 4 0 (v := .agg #[.int .i64 xb, .int .i64 xq]) hF hM (by kernel_rfl) rfl rfl (by kernel_rfl) (by kernel_rfl) fun a w hF hM => ?_)
  refine wl (eN 69 10 (t := 39) (fun b => .slice (some ⟨b, 0, none⟩) 1 1) #[.int .i64 xb, .int .i64 xq] hF hM (by kernel_rfl) (fun _ => by kernel_rfl) fun bb10 a w hF hM => ?_)
  refine wl (eL 70 6 0 (v := .agg #[.int .i64 sv, .int .i64 lb]) hF hM (by kernel_rfl) rfl rfl (by kernel_rfl) (by kernel_rfl) fun a w hF hM => ?_)
  refine wl (eM 71 (v := .tuple #[.int .i64 (lb + c2), .int .i64 0]) hF hM (by kernel_rfl) (yld_call (f := 20) (args := #[.slice (some ⟨bb10, 0, none⟩) 1 1, .agg #[.int .i64 sv, .int .i64 lb]]) hF (by kernel_rfl) (fun _ => by kernel_rfl) (fun w hM => dl_to ⟨(dl_one k2).1, (dl_one k2).2.trans (by rw [hc2])⟩ (delay_w sv lb (some ⟨bb10, 0, none⟩) [(xb, xq)] _ w (hM.roRow (k := 10) rfl)))) fun a w hF hM => ?_)
  refine sB 5 [(67, .tuple #[.int .i64 (lb + c2), .int .i64 0]), (72, .int .i64 (lb + c2)), (73, .int .i64 0), (16, .int .i64 (lb + c2)), (17, .int .i64 0)] hF (by kernel_rfl) fun a hF => ?_
  refine wpList_nil ?_
  refine hK10 _ _ ?_
  refine wp_seq_k fun K11 hK11 => ?_
  refine wp_region_lit ?_
  refine wl (eL 75 4 0 (v := .agg #[.int .i64 xb, .int .i64 xq]) hF hM (by kernel_rfl) rfl rfl (by kernel_rfl) (by kernel_rfl) fun a w hF hM => ?_)
  refine wl (eN 76 11 (t := 39) (fun b => .slice (some ⟨b, 0, none⟩) 1 1) #[.int .i64 xb, .int .i64 xq] hF hM (by kernel_rfl) (fun _ => by kernel_rfl) fun bb11 a w hF hM => ?_)
  refine wl (eL 77 7 0 (v := .agg #[.int .i64 mi, .int .i64 (la + lb)]) hF hM (by kernel_rfl) rfl rfl (by kernel_rfl) (by kernel_rfl) fun a w hF hM => ?_)
  refine wl (eM 78 (v := .tuple #[.int .i64 (la + lb + c3), .int .i64 0]) hF hM (by kernel_rfl) (yld_call (f := 20) (args := #[.slice (some ⟨bb11, 0, none⟩) 1 1, .agg #[.int .i64 mi, .int .i64 (la + lb)]]) hF (by kernel_rfl) (fun _ => by kernel_rfl) (fun w hM => dl_to ⟨(dl_one k3).1, (dl_one k3).2.trans (by rw [hc3])⟩ (delay_w mi (la + lb) (some ⟨bb11, 0, none⟩) [(xb, xq)] _ w (hM.roRow (k := 11) rfl)))) fun a w hF hM => ?_)
  refine sB 5 [(74, .tuple #[.int .i64 (la + lb + c3), .int .i64 0]), (79, .int .i64 (la + lb + c3)), (80, .int .i64 0), (18, .int .i64 (la + lb + c3)), (19, .int .i64 0)] hF (by kernel_rfl) fun a hF => ?_
  refine wpList_nil ?_
  refine hK11 _ _ ?_
  refine wp_seq_k fun K12 hK12 => ?_
  refine wp_region_lit ?_
  refine sB 1 [(81, .int .i64 0)] hF (by kernel_rfl) fun a hF => ?_
  refine wl (eP 82 (v0 := .bool (decide (0 = 0))) (v := .bool true) hF (by kernel_rfl) (fun _ => by kernel_rfl) (bT (by omega)) fun a hF => ?_)
  refine sB 2 [(83, .bool true), (84, .int .i64 0)] hF (by kernel_rfl) fun a hF => ?_
  refine wl (eP 85 (v0 := .bool (decide (0 = 0))) (v := .bool true) hF (by kernel_rfl) (fun _ => by kernel_rfl) (bT (by omega)) fun a hF => ?_)
  refine sB 3 [(86, .bool true), (87, .bool true), (88, .int .i64 0)] hF (by kernel_rfl) fun a hF => ?_
  refine wl (eP 89 (v0 := .bool (decide (0 = 0))) (v := .bool true) hF (by kernel_rfl) (fun _ => by kernel_rfl) (bT (by omega)) fun a hF => ?_)
  refine sB 3 [(90, .bool true), (91, .bool true), (92, .int .i64 0)] hF (by kernel_rfl) fun a hF => ?_
  refine wl (eP 93 (v0 := .bool (decide (0 = 0))) (v := .bool true) hF (by kernel_rfl) (fun _ => by kernel_rfl) (bT (by omega)) fun a hF => ?_)
  refine sB 3 [(94, .bool true), (95, .bool true), (96, .int .i64 0)] hF (by kernel_rfl) fun a hF => ?_
  refine wl (eP 97 (v0 := .bool (decide (0 = 0))) (v := .bool true) hF (by kernel_rfl) (fun _ => by kernel_rfl) (bT (by omega)) fun a hF => ?_)
  refine sB 2 [(98, .bool true), (99, .bool true)] hF (by kernel_rfl) fun a hF => ?_
  refine wl (eL 100 7 0 (v := .agg #[.int .i64 mi, .int .i64 (la + lb)]) hF hM (by kernel_rfl) rfl rfl (by kernel_rfl) (by kernel_rfl) fun a w hF hM => ?_)
  refine wl (eL 101 8 0 (v := .agg #[.int .i64 mi, .int .i64 (la + lb)]) hF hM (by kernel_rfl) rfl rfl (by kernel_rfl) (by kernel_rfl) fun a w hF hM => ?_)
  refine wl (eM 102 (v := .bool true) hF hM (by kernel_rfl) ((yld_eql (C := Mem _ _ _) [mi, la + lb] [mi, la + lb] hF rfl (by kernel_rfl) (by kernel_rfl) (by kernel_rfl) rfl (by kernel_rfl) (by kernel_rfl) (by kernel_rfl) rfl rfl).to (bT rfl)) fun a w hF hM => ?_)
  refine sB 5 [(103, .bool true), (104, .bool true), (105, .int .i64 (la + lb + c3)), (106, .int .i64 (la + c1)), (107, .int .i64 (lb + c2))] hF (by kernel_rfl) fun a hF => ?_
  refine wl (eP 108 (v0 := .int .i64 (IntKind.i64.wrap (la + c1 + (lb + c2)))) (v := .int .i64 (la + c1 + (lb + c2))) hF (by kernel_rfl) (fun _ => by kernel_rfl) (wi (by omega)) fun a hF => ?_)
  refine wl (eP 109 (v0 := .bool (decide (la + lb + c3 ≤ la + c1 + (lb + c2)))) (v := .bool true) hF (by kernel_rfl) (fun _ => by kernel_rfl) (bT (by omega)) fun a hF => ?_)
  refine sB 4 [(110, .bool true), (111, .bool true), (112, .int .i64 (la + lb + c3)), (113, .int .i64 (la + c1))] hF (by kernel_rfl) fun a hF => ?_
  refine wl (eP 114 (v0 := .bool (decide (la + c1 ≤ la + lb + c3))) (v := .bool true) hF (by kernel_rfl) (fun _ => by kernel_rfl) (bT (by omega)) fun a hF => ?_)
  refine sB 4 [(115, .bool true), (116, .bool true), (117, .int .i64 (la + lb + c3)), (118, .int .i64 (lb + c2))] hF (by kernel_rfl) fun a hF => ?_
  refine wl (eP 119 (v0 := .bool (decide (lb + c2 ≤ la + lb + c3))) (v := .bool true) hF (by kernel_rfl) (fun _ => by kernel_rfl) (bT (by omega)) fun a hF => ?_)
  refine sB 2 [(120, .bool true), (6, .bool true)] hF (by kernel_rfl) fun a hF => ?_
  refine wpList_nil ?_
  refine hK12 _ _ ?_
  refine wp_ret ?_
  refine hR0 _ _ ?_
  refine ret_of hF hM (.tmp rfl (.nil)) ?_
  exact ⟨rfl, hM.bel⟩

end Go.Proofs.Ytoighcbbaacnaaa
