/-
  Contracts of package curve: Check, Join.
-/
import Derived.Test.YtoighcbbaacnaaaCurveA
import Derived.Test.YtoighcbbaacnaaaClear
import Derived.Test.YtoighcbbaacnaaaFlat
namespace Go.Proofs.Ytoighcbbaacnaaa
open Go.RowKit
set_option linter.unusedVariables false
set_option linter.unusedSimpArgs false

theorem svCheck_w (r t : Int) (w0 : World) :
    Calls Try.prog 16 #[.agg #[.int .i64 r, .int .i64 t]] w0 (Ret w0 (.int .i64 (svE r t))) := by
  refine enterK 21 Try.func16 rfl rfl rfl ?_
  intro a hF Q0 hR0 hN0
  have hM := Mem.start w0
  refine wp_seq_k fun K1 hK1 => ?_
  refine wp_region_lit ?_
  refine wl (eN 1 1 (t := 23) (fun b => .pointer (some ⟨b, 0, none⟩)) #[.int .i64 r, .int .i64 t] hF hM (by kernel_rfl) (fun _ => by kernel_rfl) fun bb1 a w hF hM => ?_)
  refine sB 1 [(2, .int .i64 0)] hF (by kernel_rfl) fun a hF => ?_
  refine wpList_nil ?_
  refine hK1 _ _ ?_
  refine wp_seq_k fun K2 hK2 => ?_
  refine wp_seq_k fun K3 hK3 => ?_
  by_cases hz1 : r < 1
  · skip
    refine wp_region_lit ?_
    refine sB 1 [(3, .pointer (some ⟨bb1, 0, none⟩))] hF (by kernel_rfl) fun a hF => ?_
    refine wl (eL 4 1 0 (v := .int .i64 r) hF hM (by kernel_rfl) rfl rfl (by kernel_rfl) (by kernel_rfl) fun a w hF hM => ?_)
    refine wl (eP 5 (v0 := .bool (decide (r < 1))) (v := .bool true) hF (by kernel_rfl) (fun _ => by kernel_rfl) (bT hz1) fun a hF => ?_)
    refine sB 15 [(6, .bool true), (7, undef), (8, undef), (9, undef), (10, .bool true), (11, .bool true), (12, undef), (13, undef), (14, undef), (15, .bool true), (16, .bool true), (17, undef), (18, undef), (19, undef), (20, .bool true)] hF (by kernel_rfl) fun a hF => ?_
    refine wpList_nil ?_
    refine hK3 _ _ ?_
    refine cT hF (by kernel_rfl) (by kernel_rfl) ?_
    refine wp_seq_k fun K4 hK4 => ?_
    refine wp_region_lit ?_
    refine sB 1 [(2, .int .i64 140)] hF (by kernel_rfl) fun a hF => ?_
    refine wpList_nil ?_
    refine hK4 _ _ ?_
    refine wp_ret ?_
    refine hR0 _ _ ?_
    refine ret_of hF hM (.tmp rfl (.nil)) ?_
    exact ⟨ret_int (by exact (svE_not (fun q => by omega)).symm), hM.bel⟩
  · skip
    by_cases hz2 : 2097152 < r
    · skip
      refine wp_region_lit ?_
      refine sB 1 [(3, .pointer (some ⟨bb1, 0, none⟩))] hF (by kernel_rfl) fun a hF => ?_
      refine wl (eL 4 1 0 (v := .int .i64 r) hF hM (by kernel_rfl) rfl rfl (by kernel_rfl) (by kernel_rfl) fun a w hF hM => ?_)
      refine wl (eP 5 (v0 := .bool (decide (r < 1))) (v := .bool false) hF (by kernel_rfl) (fun _ => by kernel_rfl) (bF hz1) fun a hF => ?_)
      refine sB 2 [(6, .bool false), (7, .pointer (some ⟨bb1, 0, none⟩))] hF (by kernel_rfl) fun a hF => ?_
      refine wl (eL 8 1 0 (v := .int .i64 r) hF hM (by kernel_rfl) rfl rfl (by kernel_rfl) (by kernel_rfl) fun a w hF hM => ?_)
      refine wl (eP 9 (v0 := .bool (decide (2097152 < r))) (v := .bool true) hF (by kernel_rfl) (fun _ => by kernel_rfl) (bT hz2) fun a hF => ?_)
      refine sB 11 [(10, .bool true), (11, .bool true), (12, undef), (13, undef), (14, undef), (15, .bool true), (16, .bool true), (17, undef), (18, undef), (19, undef), (20, .bool true)] hF (by kernel_rfl) fun a hF => ?_
      refine wpList_nil ?_
      refine hK3 _ _ ?_
      refine cT hF (by kernel_rfl) (by kernel_rfl) ?_
      refine wp_seq_k fun K5 hK5 => ?_
      refine wp_region_lit ?_
      refine sB 1 [(2, .int .i64 140)] hF (by kernel_rfl) fun a hF => ?_
      refine wpList_nil ?_
      refine hK5 _ _ ?_
      refine wp_ret ?_
      refine hR0 _ _ ?_
      refine ret_of hF hM (.tmp rfl (.nil)) ?_
      exact ⟨ret_int (by exact (svE_not (fun q => by omega)).symm), hM.bel⟩
    · skip
      by_cases hz3 : t < 0
      · skip
        refine wp_region_lit ?_
        refine sB 1 [(3, .pointer (some ⟨bb1, 0, none⟩))] hF (by kernel_rfl) fun a hF => ?_
        refine wl (eL 4 1 0 (v := .int .i64 r) hF hM (by kernel_rfl) rfl rfl (by kernel_rfl) (by kernel_rfl) fun a w hF hM => ?_)
        refine wl (eP 5 (v0 := .bool (decide (r < 1))) (v := .bool false) hF (by kernel_rfl) (fun _ => by kernel_rfl) (bF hz1) fun a hF => ?_)
        refine sB 2 [(6, .bool false), (7, .pointer (some ⟨bb1, 0, none⟩))] hF (by kernel_rfl) fun a hF => ?_
        refine wl (eL 8 1 0 (v := .int .i64 r) hF hM (by kernel_rfl) rfl rfl (by kernel_rfl) (by kernel_rfl) fun a w hF hM => ?_)
        refine wl (eP 9 (v0 := .bool (decide (2097152 < r))) (v := .bool false) hF (by kernel_rfl) (fun _ => by kernel_rfl) (bF hz2) fun a hF => ?_)
        refine sB 3 [(10, .bool false), (11, .bool false), (12, .pointer (some ⟨bb1, 1, none⟩))] hF (by kernel_rfl) fun a hF => ?_
        refine wl (eL 13 1 1 (v := .int .i64 t) hF hM (by kernel_rfl) rfl rfl (by kernel_rfl) (by kernel_rfl) fun a w hF hM => ?_)
        refine wl (eP 14 (v0 := .bool (decide (t < 0))) (v := .bool true) hF (by kernel_rfl) (fun _ => by kernel_rfl) (bT hz3) fun a hF => ?_)
        refine sB 6 [(15, .bool true), (16, .bool true), (17, undef), (18, undef), (19, undef), (20, .bool true)] hF (by kernel_rfl) fun a hF => ?_
        refine wpList_nil ?_
        refine hK3 _ _ ?_
        refine cT hF (by kernel_rfl) (by kernel_rfl) ?_
        refine wp_seq_k fun K6 hK6 => ?_
        refine wp_region_lit ?_
        refine sB 1 [(2, .int .i64 140)] hF (by kernel_rfl) fun a hF => ?_
        refine wpList_nil ?_
        refine hK6 _ _ ?_
        refine wp_ret ?_
        refine hR0 _ _ ?_
        refine ret_of hF hM (.tmp rfl (.nil)) ?_
        exact ⟨ret_int (by exact (svE_not (fun q => by omega)).symm), hM.bel⟩
      · skip
        refine wp_region_lit ?_
        refine sB 1 [(3, .pointer (some ⟨bb1, 0, none⟩))] hF (by kernel_rfl) fun a hF => ?_
        refine wl (eL 4 1 0 (v := .int .i64 r) hF hM (by kernel_rfl) rfl rfl (by kernel_rfl) (by kernel_rfl) fun a w hF hM => ?_)
        refine wl (eP 5 (v0 := .bool (decide (r < 1))) (v := .bool false) hF (by kernel_rfl) (fun _ => by kernel_rfl) (bF hz1) fun a hF => ?_)
        refine sB 2 [(6, .bool false), (7, .pointer (some ⟨bb1, 0, none⟩))] hF (by kernel_rfl) fun a hF => ?_
        refine wl (eL 8 1 0 (v := .int .i64 r) hF hM (by kernel_rfl) rfl rfl (by kernel_rfl) (by kernel_rfl) fun a w hF hM => ?_)
        refine wl (eP 9 (v0 := .bool (decide (2097152 < r))) (v := .bool false) hF (by kernel_rfl) (fun _ => by kernel_rfl) (bF hz2) fun a hF => ?_)
        refine sB 3 [(10, .bool false), (11, .bool false), (12, .pointer (some ⟨bb1, 1, none⟩))] hF (by kernel_rfl) fun a hF => ?_
        refine wl (eL 13 1 1 (v := .int .i64 t) hF hM (by kernel_rfl) rfl rfl (by kernel_rfl) (by kernel_rfl) fun a w hF hM => ?_)
        refine wl (eP 14 (v0 := .bool (decide (t < 0))) (v := .bool false) hF (by kernel_rfl) (fun _ => by kernel_rfl) (bF hz3) fun a hF => ?_)
        refine sB 3 [(15, .bool false), (16, .bool false), (17, .pointer (some ⟨bb1, 1, none⟩))] hF (by kernel_rfl) fun a hF => ?_
        refine wl (eL 18 1 1 (v := .int .i64 t) hF hM (by kernel_rfl) rfl rfl (by kernel_rfl) (by kernel_rfl) fun a w hF hM => ?_)
        refine sB 2 [(19, .bool (decide (268435456 < t))), (20, .bool (decide (268435456 < t)))] hF (by kernel_rfl) fun a hF => ?_
        refine wpList_nil ?_
        refine hK3 _ _ ?_
        by_cases hz4 : 268435456 < t
        · skip
          replace hF := hF.c hF (i := 19) (v := .bool true) rfl (bT hz4)
          replace hF := hF.c hF (i := 20) (v := .bool true) rfl (bT hz4)
          refine cT hF (by kernel_rfl) (by kernel_rfl) ?_
          refine wp_seq_k fun K7 hK7 => ?_
          refine wp_region_lit ?_
          refine sB 1 [(2, .int .i64 140)] hF (by kernel_rfl) fun a hF => ?_
          refine wpList_nil ?_
          refine hK7 _ _ ?_
          refine wp_ret ?_
          refine hR0 _ _ ?_
          refine ret_of hF hM (.tmp rfl (.nil)) ?_
          exact ⟨ret_int (by exact (svE_not (fun q => by omega)).symm), hM.bel⟩
        · skip
          replace hF := hF.c hF (i := 19) (v := .bool false) rfl (bF hz4)
          replace hF := hF.c hF (i := 20) (v := .bool false) rfl (bF hz4)
          refine cF hF (by kernel_rfl) (by kernel_rfl) ?_
          refine wp_skip ?_
          refine hK2 _ _ ?_
          refine wp_seq_k fun K8 hK8 => ?_
          refine wp_region_lit ?_
          refine sB 1 [(2, .int .i64 0)] hF (by kernel_rfl) fun a hF => ?_
          refine wpList_nil ?_
          refine hK8 _ _ ?_
          refine wp_ret ?_
          refine hR0 _ _ ?_
          refine ret_of hF hM (.tmp rfl (.nil)) ?_
          exact ⟨ret_int (by exact (svE_yes ⟨by omega, by omega, by omega, by omega⟩).symm), hM.bel⟩

def jnE (ar au br bu : Int) : Int := if svE ar au = 0 ∧ svE br bu = 0 then (if au + bu ≤ 268435456 then 0 else 6) else 140
def jnA (ar au br bu : Int) : Int := if jnE ar au br bu = 0 then min ar br else 0
def jnB (ar au br bu : Int) : Int := if jnE ar au br bu = 0 then au + bu else 0
theorem jn_no {ar au br bu e : Int} (h : jnE ar au br bu = e) (he : e ≠ 0) : jnE ar au br bu = e ∧ jnA ar au br bu = 0 ∧ jnB ar au br bu = 0 := ⟨h, by unfold jnA; rw [if_neg (by rw [h]; exact he)], by unfold jnB; rw [if_neg (by rw [h]; exact he)]⟩
theorem jn_bad {ar au br bu : Int} (h : ¬ (svE ar au = 0 ∧ svE br bu = 0)) : jnE ar au br bu = 140 ∧ jnA ar au br bu = 0 ∧ jnB ar au br bu = 0 := jn_no (by unfold jnE; rw [if_neg h]) (by decide)
theorem jn_1 {ar au br bu : Int} (h : ¬ svE ar au = 0) : jnE ar au br bu = svE ar au ∧ jnA ar au br bu = 0 ∧ jnB ar au br bu = 0 := by rw [svE_no h]; exact jn_bad (fun q => h q.1)
theorem jn_2 {ar au br bu : Int} (h : ¬ svE br bu = 0) : jnE ar au br bu = svE br bu ∧ jnA ar au br bu = 0 ∧ jnB ar au br bu = 0 := by rw [svE_no h]; exact jn_bad (fun q => h q.2)
theorem jn_6 {ar au br bu : Int} (h1 : svE ar au = 0) (h2 : svE br bu = 0) (h : 268435456 < au + bu) : jnE ar au br bu = 6 ∧ jnA ar au br bu = 0 ∧ jnB ar au br bu = 0 := jn_no (by unfold jnE; rw [if_pos ⟨h1, h2⟩, if_neg (by omega)]) (by decide)
theorem jn_0 {ar au br bu : Int} (h1 : svE ar au = 0) (h2 : svE br bu = 0) (h : ¬ 268435456 < au + bu) : jnE ar au br bu = 0 ∧ jnA ar au br bu = min ar br ∧ jnB ar au br bu = au + bu := by
  have e : jnE ar au br bu = 0 := by unfold jnE; rw [if_pos ⟨h1, h2⟩, if_pos (by omega)]
  exact ⟨e, by unfold jnA; rw [if_pos e], by unfold jnB; rw [if_pos e]⟩
theorem join_w (ar au br bu : Int) (w0 : World) :
    Calls Try.prog 14 #[.agg #[.int .i64 ar, .int .i64 au], .agg #[.int .i64 br, .int .i64 bu]] w0 (Ret w0 (.tuple #[.agg #[.int .i64 (jnA ar au br bu), .int .i64 (jnB ar au br bu)], .int .i64 (jnE ar au br bu)])) := by
  refine enterK 33 Try.func14 rfl rfl rfl ?_
  intro a hF Q0 hR0 hN0
  have hM := Mem.start w0
  refine wp_seq_k fun K1 hK1 => ?_
  refine wp_region_lit ?_
  refine wl (eN 2 1 (t := 23) (fun b => .pointer (some ⟨b, 0, none⟩)) #[.int .i64 ar, .int .i64 au] hF hM (by kernel_rfl) (fun _ => by kernel_rfl) fun bb1 a w hF hM => ?_)
  refine wl (eN 3 2 (t := 23) (fun b => .pointer (some ⟨b, 0, none⟩)) #[.int .i64 br, .int .i64 bu] hF hM (by kernel_rfl) (fun _ => by kernel_rfl) fun bb2 a w hF hM => ?_)
  refine wl (eN 4 3 (t := 23) (fun b => .pointer (some ⟨b, 0, none⟩)) #[.int .i64 0, .int .i64 0] hF hM (by kernel_rfl) (fun _ => by kernel_rfl) fun bb3 a w hF hM => ?_)
  refine sB 1 [(5, .int .i64 0)] hF (by kernel_rfl) fun a hF => ?_
  refine wpList_nil ?_
  refine hK1 _ _ ?_
  refine wp_seq_k fun K2 hK2 => ?_
  refine wp_region_lit ?_
  refine sB 2 [(7, .func (.func 35) #[] #[.pointer (some ⟨bb1, 0, none⟩)]), (8, .func (.func 36) #[] #[.pointer (some ⟨bb2, 0, none⟩)])] hF (by kernel_rfl) fun a hF => ?_
  refine wl (eN 9 4 (t := 77) (fun b => .slice (some ⟨b, 0, none⟩) 2 2) #[.func (.func 35) #[] #[.pointer (some ⟨bb1, 0, none⟩)], .func (.func 36) #[] #[.pointer (some ⟨bb2, 0, none⟩)]] hF hM (by kernel_rfl) (fun _ => by kernel_rfl) fun bb4 a w hF hM => ?_)
  refine wl (sC (f := 34) (args := #[.slice (some ⟨bb4, 0, none⟩) 2 2]) hF (by kernel_rfl) rfl (by decide) (by kernel_rfl) (fun _ => by kernel_rfl) ?_)
  refine enterK 18 Try.func34 rfl rfl rfl ?_
  intro a1 hF1 QR3 hR3 hNR3
  refine wp_seq_k fun K4 hK4 => ?_
  refine wp_region_lit ?_
  refine sB 1 [(2, .int .i64 0)] hF1 (by kernel_rfl) fun a1 hF1 => ?_
  refine wpList_nil ?_
  refine hK4 _ _ ?_
  refine wp_seq_k fun K5 hK5 => ?_
  refine wp_seq_k fun K6 hK6 => ?_
  refine wp_region_lit ?_
  refine sB 3 [(6, .slice (some ⟨bb4, 0, none⟩) 2 2), (7, .int .i64 2), (8, .int .i64 0)] hF1 (by kernel_rfl) fun a1 hF1 => ?_
  refine wpList_nil ?_
  refine hK6 _ _ ?_
  refine wp_block ?_
  refine wp_loop_rounds 3 ?_
  refine rounds_k fun K7 hK7 => ?_
  refine wp_seq_k fun K8 hK8 => ?_
  refine wp_region_lit ?_
  refine wl (eP 9 (v0 := .bool (decide (0 < 2))) (v := .bool true) hF1 (by kernel_rfl) (fun _ => by kernel_rfl) (bT (by omega)) fun a1 hF1 => ?_)
  refine wpList_nil ?_
  refine hK8 _ _ ?_
  refine wp_seq_k fun K9 hK9 => ?_
  refine cT hF1 (by kernel_rfl) (by kernel_rfl) ?_
  refine wp_skip ?_
  refine hK9 _ _ ?_
  refine wp_seq_k fun K10 hK10 => ?_
  refine wp_block ?_
  refine wp_seq_k fun K11 hK11 => ?_
  refine wp_region_lit ?_
  refine sB 1 [(10, .pointer (some ⟨bb4, 0, none⟩))] hF1 (by kernel_rfl) fun a1 hF1 => ?_
  refine wl (eL 11 4 0 (v := .func (.func 35) #[] #[.pointer (some ⟨bb1, 0, none⟩)]) hF1 hM (by kernel_rfl) rfl rfl (by kernel_rfl) (by kernel_rfl) fun a1 w hF1 hM => ?_)
  refine sB 1 [(4, .func (.func 35) #[] #[.pointer (some ⟨bb1, 0, none⟩)])] hF1 (by kernel_rfl) fun a1 hF1 => ?_
  refine wpList_nil ?_
  refine hK11 _ _ ?_
  refine wp_seq_k fun K12 hK12 => ?_
  refine wp_region_lit ?_
  refine sB 1 [(12, .func (.func 35) #[] #[.pointer (some ⟨bb1, 0, none⟩)])] hF1 (by kernel_rfl) fun a1 hF1 => ?_
  refine wl (sC (f := 35) (args := #[.pointer (some ⟨bb1, 0, none⟩)]) hF1 (by kernel_rfl) rfl (by decide) (by kernel_rfl) (fun _ => by kernel_rfl) ?_)
  refine enterK 4 Try.func35 rfl rfl rfl ?_
  intro a2 hF2 QR13 hR13 hNR13
  refine wp_seq_k fun K14 hK14 => ?_
  refine wp_region_lit ?_
  refine sB 1 [(1, .int .i64 0)] hF2 (by kernel_rfl) fun a2 hF2 => ?_
  refine wpList_nil ?_
  refine hK14 _ _ ?_
  refine wp_seq_k fun K15 hK15 => ?_
  refine wp_region_lit ?_
  refine wl (eL 2 1 0 (v := .agg #[.int .i64 ar, .int .i64 au]) hF2 hM (by kernel_rfl) rfl rfl (by kernel_rfl) (by kernel_rfl) fun a2 w hF2 hM => ?_)
  refine wl (eM 3 (v := .int .i64 (svE ar au)) hF2 hM (by kernel_rfl) (yld_call (f := 16) (args := #[.agg #[.int .i64 ar, .int .i64 au]]) hF2 (by kernel_rfl) (fun _ => by kernel_rfl) (fun w hM => svCheck_w ar au w)) fun a2 w hF2 hM => ?_)
  refine sB 1 [(1, .int .i64 (svE ar au))] hF2 (by kernel_rfl) fun a2 hF2 => ?_
  refine wpList_nil ?_
  refine hK15 _ _ ?_
  refine wp_ret ?_
  refine hR13 _ _ ?_
  refine ret_of hF2 hM (.tmp rfl (.nil)) ⟨_, rfl, ?_⟩
  intro a1 hF1
  refine sB 1 [(5, .int .i64 (svE ar au))] hF1 (by kernel_rfl) fun a1 hF1 => ?_
  refine wpList_nil ?_
  refine hK12 _ _ ?_
  refine wp_seq_k fun K16 hK16 => ?_
  refine wp_region_lit ?_
  refine sB 2 [(14, .int .i64 (svE ar au)), (15, .bool (!decide (svE ar au = 0)))] hF1 (by kernel_rfl) fun a1 hF1 => ?_
  refine wpList_nil ?_
  refine hK16 _ _ ?_
  by_cases hz1 : svE ar au = 0
  · skip
    have hz2 := svE_ok hz1
    replace hF1 := hF1.c hF1 (i := 15) (v := .bool false) rfl (nT hz1)
    refine cF hF1 (by kernel_rfl) (by kernel_rfl) ?_
    refine wp_skip ?_
    refine hK10 _ _ ?_
    refine wp_region_lit ?_
    refine wl (eP 17 (v0 := .int .i64 (IntKind.i64.wrap (0 + 1))) (v := .int .i64 1) hF1 (by kernel_rfl) (fun _ => by kernel_rfl) (vi (by decide)) fun a1 hF1 => ?_)
    refine sB 1 [(8, .int .i64 1)] hF1 (by kernel_rfl) fun a1 hF1 => ?_
    refine wpList_nil ?_
    refine hK7 _ _ ?_
    refine rounds_k fun K17 hK17 => ?_
    refine wp_seq_k fun K18 hK18 => ?_
    refine wp_region_lit ?_
    refine wl (eP 9 (v0 := .bool (decide (1 < 2))) (v := .bool true) hF1 (by kernel_rfl) (fun _ => by kernel_rfl) (bT (by omega)) fun a1 hF1 => ?_)
    refine wpList_nil ?_
    refine hK18 _ _ ?_
    refine wp_seq_k fun K19 hK19 => ?_
    refine cT hF1 (by kernel_rfl) (by kernel_rfl) ?_
    refine wp_skip ?_
    refine hK19 _ _ ?_
    refine wp_seq_k fun K20 hK20 => ?_
    refine wp_block ?_
    refine wp_seq_k fun K21 hK21 => ?_
    refine wp_region_lit ?_
    refine sB 1 [(10, .pointer (some ⟨bb4, 1, none⟩))] hF1 (by kernel_rfl) fun a1 hF1 => ?_
    refine wl (eL 11 4 1 (v := .func (.func 36) #[] #[.pointer (some ⟨bb2, 0, none⟩)]) hF1 hM (by kernel_rfl) rfl rfl (by kernel_rfl) (by kernel_rfl) fun a1 w hF1 hM => ?_)
    refine sB 1 [(4, .func (.func 36) #[] #[.pointer (some ⟨bb2, 0, none⟩)])] hF1 (by kernel_rfl) fun a1 hF1 => ?_
    refine wpList_nil ?_
    refine hK21 _ _ ?_
    refine wp_seq_k fun K22 hK22 => ?_
    refine wp_region_lit ?_
    refine sB 1 [(12, .func (.func 36) #[] #[.pointer (some ⟨bb2, 0, none⟩)])] hF1 (by kernel_rfl) fun a1 hF1 => ?_
    refine wl (sC (f := 36) (args := #[.pointer (some ⟨bb2, 0, none⟩)]) hF1 (by kernel_rfl) rfl (by decide) (by kernel_rfl) (fun _ => by kernel_rfl) ?_)
    refine enterK 4 Try.func36 rfl rfl rfl ?_
    intro a2 hF2 QR23 hR23 hNR23
    refine wp_seq_k fun K24 hK24 => ?_
    refine wp_region_lit ?_
    refine sB 1 [(1, .int .i64 0)] hF2 (by kernel_rfl) fun a2 hF2 => ?_
    refine wpList_nil ?_
    refine hK24 _ _ ?_
    refine wp_seq_k fun K25 hK25 => ?_
    refine wp_region_lit ?_
    refine wl (eL 2 2 0 (v := .agg #[.int .i64 br, .int .i64 bu]) hF2 hM (by kernel_rfl) rfl rfl (by kernel_rfl) (by kernel_rfl) fun a2 w hF2 hM => ?_)
    refine wl (eM 3 (v := .int .i64 (svE br bu)) hF2 hM (by kernel_rfl) (yld_call (f := 16) (args := #[.agg #[.int .i64 br, .int .i64 bu]]) hF2 (by kernel_rfl) (fun _ => by kernel_rfl) (fun w hM => svCheck_w br bu w)) fun a2 w hF2 hM => ?_)
    refine sB 1 [(1, .int .i64 (svE br bu))] hF2 (by kernel_rfl) fun a2 hF2 => ?_
    refine wpList_nil ?_
    refine hK25 _ _ ?_
    refine wp_ret ?_
    refine hR23 _ _ ?_
    refine ret_of hF2 hM (.tmp rfl (.nil)) ⟨_, rfl, ?_⟩
    intro a1 hF1
    refine sB 1 [(5, .int .i64 (svE br bu))] hF1 (by kernel_rfl) fun a1 hF1 => ?_
    refine wpList_nil ?_
    refine hK22 _ _ ?_
    refine wp_seq_k fun K26 hK26 => ?_
    refine wp_region_lit ?_
    refine sB 2 [(14, .int .i64 (svE br bu)), (15, .bool (!decide (svE br bu = 0)))] hF1 (by kernel_rfl) fun a1 hF1 => ?_
    refine wpList_nil ?_
    refine hK26 _ _ ?_
    by_cases hz3 : svE br bu = 0
    · skip
      have hz4 := svE_ok hz3
      replace hF1 := hF1.c hF1 (i := 15) (v := .bool false) rfl (nT hz3)
      refine cF hF1 (by kernel_rfl) (by kernel_rfl) ?_
      refine wp_skip ?_
      refine hK20 _ _ ?_
      refine wp_region_lit ?_
      refine wl (eP 17 (v0 := .int .i64 (IntKind.i64.wrap (1 + 1))) (v := .int .i64 2) hF1 (by kernel_rfl) (fun _ => by kernel_rfl) (vi (by decide)) fun a1 hF1 => ?_)
      refine sB 1 [(8, .int .i64 2)] hF1 (by kernel_rfl) fun a1 hF1 => ?_
      refine wpList_nil ?_
      refine hK17 _ _ ?_
      refine rounds_k fun K27 hK27 => ?_
      refine wp_seq_k fun K28 hK28 => ?_
      refine wp_region_lit ?_
      refine wl (eP 9 (v0 := .bool (decide (2 < 2))) (v := .bool false) hF1 (by kernel_rfl) (fun _ => by kernel_rfl) (bF (by omega)) fun a1 hF1 => ?_)
      refine wpList_nil ?_
      refine hK28 _ _ ?_
      refine wp_seq_k fun K29 hK29 => ?_
      refine cF hF1 (by kernel_rfl) (by kernel_rfl) ?_
      refine wp_exit ?_
      refine hK5 _ _ ?_
      refine wp_seq_k fun K30 hK30 => ?_
      refine wp_region_lit ?_
      refine sB 1 [(2, .int .i64 0)] hF1 (by kernel_rfl) fun a1 hF1 => ?_
      refine wpList_nil ?_
      refine hK30 _ _ ?_
      refine wp_ret ?_
      refine hR3 _ _ ?_
      refine ret_of hF1 hM (.tmp rfl (.nil)) ⟨_, rfl, ?_⟩
      intro a hF
      refine sB 1 [(6, .int .i64 0)] hF (by kernel_rfl) fun a hF => ?_
      refine wpList_nil ?_
      refine hK2 _ _ ?_
      refine wp_seq_k fun K31 hK31 => ?_
      refine wp_seq_k fun K32 hK32 => ?_
      refine wp_region_lit ?_
      refine sB 1 [(11, .int .i64 0)] hF (by kernel_rfl) fun a hF => ?_
      refine wl (eP 12 (v0 := .bool (!decide (0 = 0))) (v := .bool false) hF (by kernel_rfl) (fun _ => by kernel_rfl) (nT (by omega)) fun a hF => ?_)
      refine wpList_nil ?_
      refine hK32 _ _ ?_
      refine cF hF (by kernel_rfl) (by kernel_rfl) ?_
      refine wp_skip ?_
      refine hK31 _ _ ?_
      refine wp_seq_k fun K33 hK33 => ?_
      refine wp_seq_k fun K34 hK34 => ?_
      refine wp_region_lit ?_
      refine sB 1 [(15, .pointer (some ⟨bb1, 1, none⟩))] hF (by kernel_rfl) fun a hF => ?_
      refine wl (eL 16 1 1 (v := .int .i64 au) hF hM (by kernel_rfl) rfl rfl (by kernel_rfl) (by kernel_rfl) fun a w hF hM => ?_)
      refine sB 1 [(17, .pointer (some ⟨bb2, 1, none⟩))] hF (by kernel_rfl) fun a hF => ?_
      refine wl (eL 18 2 1 (v := .int .i64 bu) hF hM (by kernel_rfl) rfl rfl (by kernel_rfl) (by kernel_rfl) fun a w hF hM => ?_)
      refine wl (eP 19 (v0 := .int .i64 (IntKind.i64.wrap (au + bu))) (v := .int .i64 (au + bu)) hF (by kernel_rfl) (fun _ => by kernel_rfl) (wi (by omega)) fun a hF => ?_)
      refine sB 1 [(20, .bool (decide (268435456 < au + bu)))] hF (by kernel_rfl) fun a hF => ?_
      refine wpList_nil ?_
      refine hK34 _ _ ?_
      by_cases hz5 : 268435456 < au + bu
      · skip
        replace hF := hF.c hF (i := 20) (v := .bool true) rfl (bT hz5)
        refine cT hF (by kernel_rfl) (by kernel_rfl) ?_
        refine wp_seq_k fun K35 hK35 => ?_
        refine wp_region_lit ?_
        refine sB 1 [(21, .agg #[.int .i64 0, .int .i64 0])] hF (by kernel_rfl) fun a hF => ?_
        refine wl (sStore (i := 3) (off := 0) (cs' := #[.int .i64 0, .int .i64 0]) hF hM (by kernel_rfl) rfl rfl (by kernel_rfl) (by kernel_rfl) rfl (by kernel_rfl) fun w hM => ?_)
        refine sB 1 [(5, .int .i64 6)] hF (by kernel_rfl) fun a hF => ?_
        refine wpList_nil ?_
        refine hK35 _ _ ?_
        refine wp_ret ?_
        refine hR0 _ _ ?_
        refine ret_of hF hM (.cell (i := 3) rfl rfl (v := .agg #[.int .i64 0, .int .i64 0]) (by kernel_rfl) (.tmp rfl (.nil))) ?_
        have hd := jn_6 (ar := ar) (au := au) (br := br) (bu := bu) hz1 hz3 (by omega)
        exact ⟨ret_eq (by rw [hd.1, hd.2.1, hd.2.2]; rfl), hM.bel⟩
      · skip
        replace hF := hF.c hF (i := 20) (v := .bool false) rfl (bF hz5)
        refine cF hF (by kernel_rfl) (by kernel_rfl) ?_
        refine wp_skip ?_
        refine hK33 _ _ ?_
        refine wp_seq_k fun K36 hK36 => ?_
        by_cases hz6 : br < ar
        · skip
          refine wp_region_lit ?_
          refine sB 1 [(22, .pointer (some ⟨bb1, 0, none⟩))] hF (by kernel_rfl) fun a hF => ?_
          refine wl (eL 23 1 0 (v := .int .i64 ar) hF hM (by kernel_rfl) rfl rfl (by kernel_rfl) (by kernel_rfl) fun a w hF hM => ?_)
          refine sB 1 [(24, .pointer (some ⟨bb2, 0, none⟩))] hF (by kernel_rfl) fun a hF => ?_
          refine wl (eL 25 2 0 (v := .int .i64 br) hF hM (by kernel_rfl) rfl rfl (by kernel_rfl) (by kernel_rfl) fun a w hF hM => ?_)
          refine wl (eP 26 (v0 := .int .i64 (if br < ar then br else ar)) (v := .int .i64 br) hF (by kernel_rfl) (fun _ => by kernel_rfl) (vi (if_pos hz6)) fun a hF => ?_)
          refine sB 1 [(27, .pointer (some ⟨bb1, 1, none⟩))] hF (by kernel_rfl) fun a hF => ?_
          refine wl (eL 28 1 1 (v := .int .i64 au) hF hM (by kernel_rfl) rfl rfl (by kernel_rfl) (by kernel_rfl) fun a w hF hM => ?_)
          refine sB 1 [(29, .pointer (some ⟨bb2, 1, none⟩))] hF (by kernel_rfl) fun a hF => ?_
          refine wl (eL 30 2 1 (v := .int .i64 bu) hF hM (by kernel_rfl) rfl rfl (by kernel_rfl) (by kernel_rfl) fun a w hF hM => ?_)
          refine wl (eP 31 (v0 := .int .i64 (IntKind.i64.wrap (au + bu))) (v := .int .i64 (au + bu)) hF (by kernel_rfl) (fun _ => by kernel_rfl) (wi (by omega)) fun a hF => ?_)
          refine sB 1 [(32, .agg #[.int .i64 br, .int .i64 (au + bu)])] hF (by kernel_rfl) fun a hF => ?_
          refine wl (sStore (i := 3) (off := 0) (cs' := #[.int .i64 br, .int .i64 (au + bu)]) hF hM (by kernel_rfl) rfl rfl (by kernel_rfl) (by kernel_rfl) rfl (by kernel_rfl) fun w hM => ?_)
          refine sB 1 [(5, .int .i64 0)] hF (by kernel_rfl) fun a hF => ?_
          refine wpList_nil ?_
          refine hK36 _ _ ?_
          refine wp_ret ?_
          refine hR0 _ _ ?_
          refine ret_of hF hM (.cell (i := 3) rfl rfl (v := .agg #[.int .i64 br, .int .i64 (au + bu)]) (by kernel_rfl) (.tmp rfl (.nil))) ?_
          have hd := jn_0 hz1 hz3 (by omega)
          exact ⟨ret_eq (by rw [hd.1, hd.2.1, hd.2.2, show min ar br = br from by omega]; rfl), hM.bel⟩
        · skip
          refine wp_region_lit ?_
          refine sB 1 [(22, .pointer (some ⟨bb1, 0, none⟩))] hF (by kernel_rfl) fun a hF => ?_
          refine wl (eL 23 1 0 (v := .int .i64 ar) hF hM (by kernel_rfl) rfl rfl (by kernel_rfl) (by kernel_rfl) fun a w hF hM => ?_)
          refine sB 1 [(24, .pointer (some ⟨bb2, 0, none⟩))] hF (by kernel_rfl) fun a hF => ?_
          refine wl (eL 25 2 0 (v := .int .i64 br) hF hM (by kernel_rfl) rfl rfl (by kernel_rfl) (by kernel_rfl) fun a w hF hM => ?_)
          refine wl (eP 26 (v0 := .int .i64 (if br < ar then br else ar)) (v := .int .i64 ar) hF (by kernel_rfl) (fun _ => by kernel_rfl) (vi (if_neg hz6)) fun a hF => ?_)
          refine sB 1 [(27, .pointer (some ⟨bb1, 1, none⟩))] hF (by kernel_rfl) fun a hF => ?_
          refine wl (eL 28 1 1 (v := .int .i64 au) hF hM (by kernel_rfl) rfl rfl (by kernel_rfl) (by kernel_rfl) fun a w hF hM => ?_)
          refine sB 1 [(29, .pointer (some ⟨bb2, 1, none⟩))] hF (by kernel_rfl) fun a hF => ?_
          refine wl (eL 30 2 1 (v := .int .i64 bu) hF hM (by kernel_rfl) rfl rfl (by kernel_rfl) (by kernel_rfl) fun a w hF hM => ?_)
          refine wl (eP 31 (v0 := .int .i64 (IntKind.i64.wrap (au + bu))) (v := .int .i64 (au + bu)) hF (by kernel_rfl) (fun _ => by kernel_rfl) (wi (by omega)) fun a hF => ?_)
          refine sB 1 [(32, .agg #[.int .i64 ar, .int .i64 (au + bu)])] hF (by kernel_rfl) fun a hF => ?_
          refine wl (sStore (i := 3) (off := 0) (cs' := #[.int .i64 ar, .int .i64 (au + bu)]) hF hM (by kernel_rfl) rfl rfl (by kernel_rfl) (by kernel_rfl) rfl (by kernel_rfl) fun w hM => ?_)
          refine sB 1 [(5, .int .i64 0)] hF (by kernel_rfl) fun a hF => ?_
          refine wpList_nil ?_
          refine hK36 _ _ ?_
          refine wp_ret ?_
          refine hR0 _ _ ?_
          refine ret_of hF hM (.cell (i := 3) rfl rfl (v := .agg #[.int .i64 ar, .int .i64 (au + bu)]) (by kernel_rfl) (.tmp rfl (.nil))) ?_
          have hd := jn_0 hz1 hz3 (by omega)
          exact ⟨ret_eq (by rw [hd.1, hd.2.1, hd.2.2, show min ar br = ar from by omega]; rfl), hM.bel⟩
    · skip
      replace hF1 := hF1.c hF1 (i := 15) (v := .bool true) rfl (nF hz3)
      refine cT hF1 (by kernel_rfl) (by kernel_rfl) ?_
      refine wp_seq_k fun K37 hK37 => ?_
      refine wp_region_lit ?_
      refine sB 2 [(16, .int .i64 (svE br bu)), (2, .int .i64 (svE br bu))] hF1 (by kernel_rfl) fun a1 hF1 => ?_
      refine wpList_nil ?_
      refine hK37 _ _ ?_
      refine wp_ret ?_
      refine hR3 _ _ ?_
      refine ret_of hF1 hM (.tmp rfl (.nil)) ⟨_, rfl, ?_⟩
      intro a hF
      refine sB 1 [(6, .int .i64 (svE br bu))] hF (by kernel_rfl) fun a hF => ?_
      refine wpList_nil ?_
      refine hK2 _ _ ?_
      refine wp_seq_k fun K38 hK38 => ?_
      refine wp_seq_k fun K39 hK39 => ?_
      refine wp_region_lit ?_
      refine sB 1 [(11, .int .i64 (svE br bu))] hF (by kernel_rfl) fun a hF => ?_
      refine wl (eP 12 (v0 := .bool (!decide (svE br bu = 0))) (v := .bool true) hF (by kernel_rfl) (fun _ => by kernel_rfl) (nF hz3) fun a hF => ?_)
      refine wpList_nil ?_
      refine hK39 _ _ ?_
      refine cT hF (by kernel_rfl) (by kernel_rfl) ?_
      refine wp_seq_k fun K40 hK40 => ?_
      refine wp_region_lit ?_
      refine sB 2 [(13, .agg #[.int .i64 0, .int .i64 0]), (14, .int .i64 (svE br bu))] hF (by kernel_rfl) fun a hF => ?_
      refine wl (sStore (i := 3) (off := 0) (cs' := #[.int .i64 0, .int .i64 0]) hF hM (by kernel_rfl) rfl rfl (by kernel_rfl) (by kernel_rfl) rfl (by kernel_rfl) fun w hM => ?_)
      refine sB 1 [(5, .int .i64 (svE br bu))] hF (by kernel_rfl) fun a hF => ?_
      refine wpList_nil ?_
      refine hK40 _ _ ?_
      refine wp_ret ?_
      refine hR0 _ _ ?_
      refine ret_of hF hM (.cell (i := 3) rfl rfl (v := .agg #[.int .i64 0, .int .i64 0]) (by kernel_rfl) (.tmp rfl (.nil))) ?_
      have hd := jn_2 (ar := ar) (au := au) (br := br) (bu := bu) hz3
      exact ⟨ret_eq (by rw [hd.1, hd.2.1, hd.2.2]; rfl), hM.bel⟩
  · skip
    replace hF1 := hF1.c hF1 (i := 15) (v := .bool true) rfl (nF hz1)
    refine cT hF1 (by kernel_rfl) (by kernel_rfl) ?_
    refine wp_seq_k fun K41 hK41 => ?_
    refine wp_region_lit ?_
    refine sB 2 [(16, .int .i64 (svE ar au)), (2, .int .i64 (svE ar au))] hF1 (by kernel_rfl) fun a1 hF1 => ?_
    refine wpList_nil ?_
    refine hK41 _ _ ?_
    refine wp_ret ?_
    refine hR3 _ _ ?_
    refine ret_of hF1 hM (.tmp rfl (.nil)) ⟨_, rfl, ?_⟩
    intro a hF
    refine sB 1 [(6, .int .i64 (svE ar au))] hF (by kernel_rfl) fun a hF => ?_
    refine wpList_nil ?_
    refine hK2 _ _ ?_
    refine wp_seq_k fun K42 hK42 => ?_
    refine wp_seq_k fun K43 hK43 => ?_
    refine wp_region_lit ?_
    refine sB 1 [(11, .int .i64 (svE ar au))] hF (by kernel_rfl) fun a hF => ?_
    refine wl (eP 12 (v0 := .bool (!decide (svE ar au = 0))) (v := .bool true) hF (by kernel_rfl) (fun _ => by kernel_rfl) (nF hz1) fun a hF => ?_)
    refine wpList_nil ?_
    refine hK43 _ _ ?_
    refine cT hF (by kernel_rfl) (by kernel_rfl) ?_
    refine wp_seq_k fun K44 hK44 => ?_
    refine wp_region_lit ?_
    refine sB 2 [(13, .agg #[.int .i64 0, .int .i64 0]), (14, .int .i64 (svE ar au))] hF (by kernel_rfl) fun a hF => ?_
    refine wl (sStore (i := 3) (off := 0) (cs' := #[.int .i64 0, .int .i64 0]) hF hM (by kernel_rfl) rfl rfl (by kernel_rfl) (by kernel_rfl) rfl (by kernel_rfl) fun w hM => ?_)
    refine sB 1 [(5, .int .i64 (svE ar au))] hF (by kernel_rfl) fun a hF => ?_
    refine wpList_nil ?_
    refine hK44 _ _ ?_
    refine wp_ret ?_
    refine hR0 _ _ ?_
    refine ret_of hF hM (.cell (i := 3) rfl rfl (v := .agg #[.int .i64 0, .int .i64 0]) (by kernel_rfl) (.tmp rfl (.nil))) ?_
    have hd := jn_1 (ar := ar) (au := au) (br := br) (bu := bu) hz1
    exact ⟨ret_eq (by rw [hd.1, hd.2.1, hd.2.2]; rfl), hM.bel⟩

end Go.Proofs.Ytoighcbbaacnaaa
