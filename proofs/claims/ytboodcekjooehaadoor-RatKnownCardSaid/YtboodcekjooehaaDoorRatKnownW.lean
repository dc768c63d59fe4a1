/-
  The walk of RatKnown.
-/
import Derived.Test.YtboodcekjooehaaDoorRatD
namespace Go.Proofs.YtboodcekjooehaaDoor
open Go.RowKit
set_option linter.unusedVariables false
set_option linter.unusedSimpArgs false

set_option maxRecDepth 100000 in
set_option maxHeartbeats 8000000 in
theorem ratKnown_walk (w0 : World) (hT : Tab w0) :
    Calls Tryd.prog 8 #[] w0 (Ret w0 (.bool true)) := by
  refine enterK 206 Tryd.func8 rfl rfl rfl ?_
  intro a hF Q0 hR0 hN0
  have hM := Mem.start w0
  refine wp_seq_k fun K1 hK1 => ?_
  refine wp_region_lit ?_
  refine sB 1 [(0, .bool false)] hF (by kernel_rfl) fun a hF => ?_
  refine wpList_nil ?_
  refine hK1 _ _ ?_
  refine wp_seq_k fun K2 hK2 => ?_
  refine wp_seq_k fun K3 hK3 => ?_
  refine wp_region_lit ?_
  refine sB 9 [(33, .agg #[.int .i64 0, .int .i64 0]), (34, .agg #[.int .i64 1, .int .i64 0]), (35, .agg #[.int .i64 1, .int .i64 (-1)]), (36, .agg #[.int .i64 0, .int .i64 2]), (37, .agg #[.int .i64 1073741825, .int .i64 1]), (38, .agg #[.int .i64 1, .int .i64 1073741825]), (39, .agg #[.int .i64 (-9223372036854775808), .int .i64 1]), (40, .agg #[.int .i64 0, .int .i64 0, .int .i64 1, .int .i64 0, .int .i64 1, .int .i64 (-1), .int .i64 0, .int .i64 2, .int .i64 1073741825, .int .i64 1, .int .i64 1, .int .i64 1073741825, .int .i64 (-9223372036854775808), .int .i64 1]), (41, .int .i64 0)] hF (by kernel_rfl) fun a hF => ?_
  refine wpList_nil ?_
  refine hK3 _ _ ?_
  refine wp_block ?_
  refine wp_loop_rounds 8 ?_
  refine rounds_k fun K4 hK4 => ?_
  refine wp_seq_k fun K5 hK5 => ?_
  refine wp_region_lit ?_
  refine wl (eP 42 (v0 := .bool (decide (0 < 7))) (v := .bool true) hF (by kernel_rfl) (fun _ => by kernel_rfl) (bT (by omega)) fun a hF => ?_)
  refine wpList_nil ?_
  refine hK5 _ _ ?_
  refine wp_seq_k fun K6 hK6 => ?_
  refine cT hF (by kernel_rfl) (by kernel_rfl) ?_
  refine wp_skip ?_
  refine hK6 _ _ ?_
  refine wp_seq_k fun K7 hK7 => ?_
  refine wp_block ?_
  refine wp_seq_k fun K8 hK8 => ?_
  refine wp_region_lit ?_
  refine sB 1 [(43, .agg #[.int .i64 0, .int .i64 0])] hF (by kernel_rfl) fun a hF => ?_
  refine wl (eN 2 1 (t := 23) (fun b => .pointer (some ⟨b, 0, none⟩)) #[.int .i64 0, .int .i64 0] hF hM (by kernel_rfl) (fun _ => by kernel_rfl) fun bb1 a w hF hM => ?_)
  refine wl (sStore (i := 1) (off := 0) (cs' := #[.int .i64 0, .int .i64 0]) hF hM (by kernel_rfl) rfl rfl (by kernel_rfl) (by kernel_rfl) rfl (by kernel_rfl) fun w hM => ?_)
  refine wpList_nil ?_
  refine hK8 _ _ ?_
  refine wp_seq_k fun K9 hK9 => ?_
  refine rF (by kernel_rfl) (by kernel_rfl) (fun S a w => ∃ bb2 : Nat, Fr 206 [(0, some (.bool false)), (2, some (.pointer (some ⟨bb1, 0, none⟩))), (3, (cond (S.getD 6 false) (some (.pointer (some ⟨bb2, 0, none⟩))) none)), (4, (cond (S.getD 8 false) (some (.int .i64 120)) none)), (40, some (.agg #[.int .i64 0, .int .i64 0, .int .i64 1, .int .i64 0, .int .i64 1, .int .i64 (-1), .int .i64 0, .int .i64 2, .int .i64 1073741825, .int .i64 1, .int .i64 1, .int .i64 1073741825, .int .i64 (-9223372036854775808), .int .i64 1])), (41, some (.int .i64 0)), (44, (cond (S.getD 3 false) (some (.tuple #[.agg #[.int .i64 0, .int .i64 0], .int .i64 120])) none)), (45, (cond (S.getD 0 false) (some (.agg #[.int .i64 0, .int .i64 0])) none)), (46, (cond (S.getD 1 false) (some (.agg #[.int .i64 1, .int .i64 1])) none)), (47, (cond (S.getD 2 false) (some (.tuple #[.agg #[.int .i64 0, .int .i64 0], .int .i64 120])) none)), (48, (cond (S.getD 4 false) (some (.agg #[.int .i64 0, .int .i64 0])) none)), (49, (cond (S.getD 5 false) (some (.int .i64 120)) none))] a ∧ Mem w0.heap.size w0 [(1, some (.row bb1 23 #[.int .i64 0, .int .i64 0])), (2, (cond (S.getD 7 false) (some (.row bb2 23 #[.int .i64 0, .int .i64 0])) (cond (S.getD 6 false) (some (.row bb2 23 #[.int .i64 0, .int .i64 0])) none)))] w) ?_ ?_ ?_
  · exact ⟨0, (((((((((((((Fr.nil hF).co hF (i := 49) (by kernel_rfl)).co hF (i := 48) (by kernel_rfl)).co hF (i := 47) (by kernel_rfl)).co hF (i := 46) (by kernel_rfl)).co hF (i := 45) (by kernel_rfl)).co hF (i := 44) (by kernel_rfl)).co hF (i := 41) (by kernel_rfl)).co hF (i := 40) (by kernel_rfl)).co hF (i := 4) (by kernel_rfl)).co hF (i := 3) (by kernel_rfl)).co hF (i := 2) (by kernel_rfl)).co hF (i := 0) (by kernel_rfl)), hM.drew.sub ((Sub.nil.co (k := 2) (by kernel_rfl)).co (k := 1) (by kernel_rfl))⟩
  · refine stC ?_ (stC ?_ (stC ?_ (stC ?_ (stC ?_ (stC ?_ (stC ?_ (stC ?_ (stC ?_ (trivial)))))))))
    · intro s0 s1 s2 s3 s4 s5 s6 s7 s8 hc hi hp a w hS
      obtain rfl : s0 = false := hi
      obtain ⟨bb2, hF, hM⟩ := hS
      refine eL 45 1 0 (v := .agg #[.int .i64 0, .int .i64 0]) hF hM (by kernel_rfl) rfl rfl (by kernel_rfl) (by kernel_rfl) fun a w hF hM => ?_
      exact ⟨bb2, ((hF.repl 7 (by kernel_rfl)).cast (by kernel_rfl)), (hM.cast (by kernel_rfl))⟩
    · intro s0 s1 s2 s3 s4 s5 s6 s7 s8 hc hi hp a w hS
      obtain rfl : s1 = false := hi
      obtain ⟨bb2, hF, hM⟩ := hS
      refine eM 46 (v := .agg #[.int .i64 1, .int .i64 1]) hF hM (by kernel_rfl) (yld_call (f := 28) (args := #[.int .i64 1, .int .i64 1]) hF (by kernel_rfl) (fun _ => by kernel_rfl) (fun w hM => of_w 1 1 w)) fun a w hF hM => ?_
      exact ⟨bb2, ((hF.repl 8 (by kernel_rfl)).cast (by kernel_rfl)), (hM.cast (by kernel_rfl))⟩
    · intro s0 s1 s2 s3 s4 s5 s6 s7 s8 hc hi hp a w hS
      obtain rfl : s2 = false := hi
      obtain rfl : s1 = true := hp 1 (by kernel_rfl)
      obtain rfl : s0 = true := hp 0 (by kernel_rfl)
      obtain ⟨bb2, hF, hM⟩ := hS
      refine eM 47 (v := .tuple #[.agg #[.int .i64 0, .int .i64 0], .int .i64 120]) hF hM (by kernel_rfl) (yld_call (f := 16) (args := #[.agg #[.int .i64 0, .int .i64 0], .agg #[.int .i64 1, .int .i64 1]]) hF (by kernel_rfl) (fun _ => by kernel_rfl) (fun w hM => raAdd_no 0 0 1 1 w (hT.below (Nat.le_refl _) hM.bel) (fun q => absurd q.1 (by decide)))) fun a w hF hM => ?_
      exact ⟨bb2, ((hF.repl 9 (by kernel_rfl)).cast (by kernel_rfl)), (hM.cast (by kernel_rfl))⟩
    · intro s0 s1 s2 s3 s4 s5 s6 s7 s8 hc hi hp a w hS
      obtain rfl : s3 = false := hi
      obtain rfl : s2 = true := hp 2 (by kernel_rfl)
      obtain ⟨bb2, hF, hM⟩ := hS
      refine eP 44 (v0 := .tuple #[.agg #[.int .i64 0, .int .i64 0], .int .i64 120]) (v := .tuple #[.agg #[.int .i64 0, .int .i64 0], .int .i64 120]) hF (by kernel_rfl) (fun _ => by kernel_rfl) rfl fun a hF => ?_
      exact ⟨bb2, ((hF.repl 6 (by kernel_rfl)).cast (by kernel_rfl)), (hM.cast (by kernel_rfl))⟩
    · intro s0 s1 s2 s3 s4 s5 s6 s7 s8 hc hi hp a w hS
      obtain rfl : s4 = false := hi
      obtain rfl : s3 = true := hp 3 (by kernel_rfl)
      obtain ⟨bb2, hF, hM⟩ := hS
      refine eP 48 (v0 := .agg #[.int .i64 0, .int .i64 0]) (v := .agg #[.int .i64 0, .int .i64 0]) hF (by kernel_rfl) (fun _ => by kernel_rfl) rfl fun a hF => ?_
      exact ⟨bb2, ((hF.repl 10 (by kernel_rfl)).cast (by kernel_rfl)), (hM.cast (by kernel_rfl))⟩
    · intro s0 s1 s2 s3 s4 s5 s6 s7 s8 hc hi hp a w hS
      obtain rfl : s5 = false := hi
      obtain rfl : s3 = true := hp 3 (by kernel_rfl)
      obtain ⟨bb2, hF, hM⟩ := hS
      refine eP 49 (v0 := .int .i64 120) (v := .int .i64 120) hF (by kernel_rfl) (fun _ => by kernel_rfl) rfl fun a hF => ?_
      exact ⟨bb2, ((hF.repl 11 (by kernel_rfl)).cast (by kernel_rfl)), (hM.cast (by kernel_rfl))⟩
    · intro s0 s1 s2 s3 s4 s5 s6 s7 s8 hc hi hp a w hS
      obtain rfl : s6 = false := hi
      obtain rfl : s7 = false := hc.f 7 6 (by kernel_rfl) rfl
      obtain ⟨bb2, hF, hM⟩ := hS
      refine eN 3 2 (t := 23) (fun b => .pointer (some ⟨b, 0, none⟩)) #[.int .i64 0, .int .i64 0] hF hM (by kernel_rfl) (fun _ => by kernel_rfl) fun bb2 a w hF hM => ?_
      exact ⟨bb2, ((hF.repl 2 (by kernel_rfl)).cast (by kernel_rfl)), ((hM.repl 1 (by kernel_rfl)).cast (by kernel_rfl))⟩
    · intro s0 s1 s2 s3 s4 s5 s6 s7 s8 hc hi hp a w hS
      obtain rfl : s7 = false := hi
      obtain rfl : s6 = true := hp 6 (by kernel_rfl)
      obtain rfl : s4 = true := hp 4 (by kernel_rfl)
      obtain ⟨bb2, hF, hM⟩ := hS
      refine sStore (i := 2) (off := 0) (cs' := #[.int .i64 0, .int .i64 0]) hF hM (by kernel_rfl) rfl rfl (by kernel_rfl) (by kernel_rfl) rfl (by kernel_rfl) fun w hM => ?_
      exact ⟨bb2, (hF.cast (by kernel_rfl)), ((hM.repl 1 (by kernel_rfl)).cast (by kernel_rfl))⟩
    · intro s0 s1 s2 s3 s4 s5 s6 s7 s8 hc hi hp a w hS
      obtain rfl : s8 = false := hi
      obtain rfl : s5 = true := hp 5 (by kernel_rfl)
      obtain ⟨bb2, hF, hM⟩ := hS
      refine eP 4 (v0 := .int .i64 120) (v := .int .i64 120) hF (by kernel_rfl) (fun _ => by kernel_rfl) rfl fun a hF => ?_
      exact ⟨bb2, ((hF.repl 3 (by kernel_rfl)).cast (by kernel_rfl)), (hM.cast (by kernel_rfl))⟩
  · intro a w hS
    obtain ⟨bb2, hF, hM⟩ := hS
    replace hF : Fr 206 [(0, some (.bool false)), (2, some (.pointer (some ⟨bb1, 0, none⟩))), (3, some (.pointer (some ⟨bb2, 0, none⟩))), (4, some (.int .i64 120)), (40, some (.agg #[.int .i64 0, .int .i64 0, .int .i64 1, .int .i64 0, .int .i64 1, .int .i64 (-1), .int .i64 0, .int .i64 2, .int .i64 1073741825, .int .i64 1, .int .i64 1, .int .i64 1073741825, .int .i64 (-9223372036854775808), .int .i64 1])), (41, some (.int .i64 0)), (44, some (.tuple #[.agg #[.int .i64 0, .int .i64 0], .int .i64 120])), (45, some (.agg #[.int .i64 0, .int .i64 0])), (46, some (.agg #[.int .i64 1, .int .i64 1])), (47, some (.tuple #[.agg #[.int .i64 0, .int .i64 0], .int .i64 120])), (48, some (.agg #[.int .i64 0, .int .i64 0])), (49, some (.int .i64 120))] a := hF.cast (by kernel_rfl)
    replace hM : Mem w0.heap.size w0 [(1, some (.row bb1 23 #[.int .i64 0, .int .i64 0])), (2, some (.row bb2 23 #[.int .i64 0, .int .i64 0]))] w := hM.cast (by kernel_rfl)
    refine hK9 _ _ ?_
    refine wp_seq_k fun K10 hK10 => ?_
    refine rF (by kernel_rfl) (by kernel_rfl) (fun S a w => ∃ bb3 : Nat, Fr 206 [(0, some (.bool false)), (2, some (.pointer (some ⟨bb1, 0, none⟩))), (4, some (.int .i64 120)), (5, (cond (S.getD 6 false) (some (.pointer (some ⟨bb3, 0, none⟩))) none)), (6, (cond (S.getD 8 false) (some (.int .i64 120)) none)), (40, some (.agg #[.int .i64 0, .int .i64 0, .int .i64 1, .int .i64 0, .int .i64 1, .int .i64 (-1), .int .i64 0, .int .i64 2, .int .i64 1073741825, .int .i64 1, .int .i64 1, .int .i64 1073741825, .int .i64 (-9223372036854775808), .int .i64 1])), (41, some (.int .i64 0)), (50, (cond (S.getD 3 false) (some (.tuple #[.agg #[.int .i64 0, .int .i64 0], .int .i64 120])) none)), (51, (cond (S.getD 0 false) (some (.agg #[.int .i64 1, .int .i64 1])) none)), (52, (cond (S.getD 1 false) (some (.agg #[.int .i64 0, .int .i64 0])) none)), (53, (cond (S.getD 2 false) (some (.tuple #[.agg #[.int .i64 0, .int .i64 0], .int .i64 120])) none)), (54, (cond (S.getD 4 false) (some (.agg #[.int .i64 0, .int .i64 0])) none)), (55, (cond (S.getD 5 false) (some (.int .i64 120)) none))] a ∧ Mem w0.heap.size w0 [(1, some (.row bb1 23 #[.int .i64 0, .int .i64 0])), (3, (cond (S.getD 7 false) (some (.row bb3 23 #[.int .i64 0, .int .i64 0])) (cond (S.getD 6 false) (some (.row bb3 23 #[.int .i64 0, .int .i64 0])) none)))] w) ?_ ?_ ?_
    · exact ⟨0, ((((((((((((((Fr.nil hF).co hF (i := 55) (by kernel_rfl)).co hF (i := 54) (by kernel_rfl)).co hF (i := 53) (by kernel_rfl)).co hF (i := 52) (by kernel_rfl)).co hF (i := 51) (by kernel_rfl)).co hF (i := 50) (by kernel_rfl)).co hF (i := 41) (by kernel_rfl)).co hF (i := 40) (by kernel_rfl)).co hF (i := 6) (by kernel_rfl)).co hF (i := 5) (by kernel_rfl)).co hF (i := 4) (by kernel_rfl)).co hF (i := 2) (by kernel_rfl)).co hF (i := 0) (by kernel_rfl)), hM.drew.sub ((Sub.nil.co (k := 3) (by kernel_rfl)).co (k := 1) (by kernel_rfl))⟩
    · refine stC ?_ (stC ?_ (stC ?_ (stC ?_ (stC ?_ (stC ?_ (stC ?_ (stC ?_ (stC ?_ (trivial)))))))))
      · intro s0 s1 s2 s3 s4 s5 s6 s7 s8 hc hi hp a w hS
        obtain rfl : s0 = false := hi
        obtain ⟨bb3, hF, hM⟩ := hS
        refine eM 51 (v := .agg #[.int .i64 1, .int .i64 1]) hF hM (by kernel_rfl) (yld_call (f := 28) (args := #[.int .i64 1, .int .i64 1]) hF (by kernel_rfl) (fun _ => by kernel_rfl) (fun w hM => of_w 1 1 w)) fun a w hF hM => ?_
        exact ⟨bb3, ((hF.repl 8 (by kernel_rfl)).cast (by kernel_rfl)), (hM.cast (by kernel_rfl))⟩
      · intro s0 s1 s2 s3 s4 s5 s6 s7 s8 hc hi hp a w hS
        obtain rfl : s1 = false := hi
        obtain ⟨bb3, hF, hM⟩ := hS
        refine eL 52 1 0 (v := .agg #[.int .i64 0, .int .i64 0]) hF hM (by kernel_rfl) rfl rfl (by kernel_rfl) (by kernel_rfl) fun a w hF hM => ?_
        exact ⟨bb3, ((hF.repl 9 (by kernel_rfl)).cast (by kernel_rfl)), (hM.cast (by kernel_rfl))⟩
      · intro s0 s1 s2 s3 s4 s5 s6 s7 s8 hc hi hp a w hS
        obtain rfl : s2 = false := hi
        obtain rfl : s1 = true := hp 1 (by kernel_rfl)
        obtain rfl : s0 = true := hp 0 (by kernel_rfl)
        obtain ⟨bb3, hF, hM⟩ := hS
        refine eM 53 (v := .tuple #[.agg #[.int .i64 0, .int .i64 0], .int .i64 120]) hF hM (by kernel_rfl) (yld_call (f := 22) (args := #[.agg #[.int .i64 1, .int .i64 1], .agg #[.int .i64 0, .int .i64 0]]) hF (by kernel_rfl) (fun _ => by kernel_rfl) (fun w hM => raDiv_no 1 1 0 0 w (hT.below (Nat.le_refl _) hM.bel) (fun q => absurd q.2 (by decide)))) fun a w hF hM => ?_
        exact ⟨bb3, ((hF.repl 10 (by kernel_rfl)).cast (by kernel_rfl)), (hM.cast (by kernel_rfl))⟩
      · intro s0 s1 s2 s3 s4 s5 s6 s7 s8 hc hi hp a w hS
        obtain rfl : s3 = false := hi
        obtain rfl : s2 = true := hp 2 (by kernel_rfl)
        obtain ⟨bb3, hF, hM⟩ := hS
        refine eP 50 (v0 := .tuple #[.agg #[.int .i64 0, .int .i64 0], .int .i64 120]) (v := .tuple #[.agg #[.int .i64 0, .int .i64 0], .int .i64 120]) hF (by kernel_rfl) (fun _ => by kernel_rfl) rfl fun a hF => ?_
        exact ⟨bb3, ((hF.repl 7 (by kernel_rfl)).cast (by kernel_rfl)), (hM.cast (by kernel_rfl))⟩
      · intro s0 s1 s2 s3 s4 s5 s6 s7 s8 hc hi hp a w hS
        obtain rfl : s4 = false := hi
        obtain rfl : s3 = true := hp 3 (by kernel_rfl)
        obtain ⟨bb3, hF, hM⟩ := hS
        refine eP 54 (v0 := .agg #[.int .i64 0, .int .i64 0]) (v := .agg #[.int .i64 0, .int .i64 0]) hF (by kernel_rfl) (fun _ => by kernel_rfl) rfl fun a hF => ?_
        exact ⟨bb3, ((hF.repl 11 (by kernel_rfl)).cast (by kernel_rfl)), (hM.cast (by kernel_rfl))⟩
      · intro s0 s1 s2 s3 s4 s5 s6 s7 s8 hc hi hp a w hS
        obtain rfl : s5 = false := hi
        obtain rfl : s3 = true := hp 3 (by kernel_rfl)
        obtain ⟨bb3, hF, hM⟩ := hS
        refine eP 55 (v0 := .int .i64 120) (v := .int .i64 120) hF (by kernel_rfl) (fun _ => by kernel_rfl) rfl fun a hF => ?_
        exact ⟨bb3, ((hF.repl 12 (by kernel_rfl)).cast (by kernel_rfl)), (hM.cast (by kernel_rfl))⟩
      · intro s0 s1 s2 s3 s4 s5 s6 s7 s8 hc hi hp a w hS
        obtain rfl : s6 = false := hi
        obtain rfl : s7 = false := hc.f 7 6 (by kernel_rfl) rfl
        obtain ⟨bb3, hF, hM⟩ := hS
        refine eN 5 3 (t := 23) (fun b => .pointer (some ⟨b, 0, none⟩)) #[.int .i64 0, .int .i64 0] hF hM (by kernel_rfl) (fun _ => by kernel_rfl) fun bb3 a w hF hM => ?_
        exact ⟨bb3, ((hF.repl 3 (by kernel_rfl)).cast (by kernel_rfl)), ((hM.repl 1 (by kernel_rfl)).cast (by kernel_rfl))⟩
      · intro s0 s1 s2 s3 s4 s5 s6 s7 s8 hc hi hp a w hS
        obtain rfl : s7 = false := hi
        obtain rfl : s6 = true := hp 6 (by kernel_rfl)
        obtain rfl : s4 = true := hp 4 (by kernel_rfl)
        obtain ⟨bb3, hF, hM⟩ := hS
        refine sStore (i := 3) (off := 0) (cs' := #[.int .i64 0, .int .i64 0]) hF hM (by kernel_rfl) rfl rfl (by kernel_rfl) (by kernel_rfl) rfl (by kernel_rfl) fun w hM => ?_
        exact ⟨bb3, (hF.cast (by kernel_rfl)), ((hM.repl 1 (by kernel_rfl)).cast (by kernel_rfl))⟩
      · intro s0 s1 s2 s3 s4 s5 s6 s7 s8 hc hi hp a w hS
        obtain rfl : s8 = false := hi
        obtain rfl : s5 = true := hp 5 (by kernel_rfl)
        obtain ⟨bb3, hF, hM⟩ := hS
        refine eP 6 (v0 := .int .i64 120) (v := .int .i64 120) hF (by kernel_rfl) (fun _ => by kernel_rfl) rfl fun a hF => ?_
        exact ⟨bb3, ((hF.repl 4 (by kernel_rfl)).cast (by kernel_rfl)), (hM.cast (by kernel_rfl))⟩
    · intro a w hS
      obtain ⟨bb3, hF, hM⟩ := hS
      replace hF : Fr 206 [(0, some (.bool false)), (2, some (.pointer (some ⟨bb1, 0, none⟩))), (4, some (.int .i64 120)), (5, some (.pointer (some ⟨bb3, 0, none⟩))), (6, some (.int .i64 120)), (40, some (.agg #[.int .i64 0, .int .i64 0, .int .i64 1, .int .i64 0, .int .i64 1, .int .i64 (-1), .int .i64 0, .int .i64 2, .int .i64 1073741825, .int .i64 1, .int .i64 1, .int .i64 1073741825, .int .i64 (-9223372036854775808), .int .i64 1])), (41, some (.int .i64 0)), (50, some (.tuple #[.agg #[.int .i64 0, .int .i64 0], .int .i64 120])), (51, some (.agg #[.int .i64 1, .int .i64 1])), (52, some (.agg #[.int .i64 0, .int .i64 0])), (53, some (.tuple #[.agg #[.int .i64 0, .int .i64 0], .int .i64 120])), (54, some (.agg #[.int .i64 0, .int .i64 0])), (55, some (.int .i64 120))] a := hF.cast (by kernel_rfl)
      replace hM : Mem w0.heap.size w0 [(1, some (.row bb1 23 #[.int .i64 0, .int .i64 0])), (3, some (.row bb3 23 #[.int .i64 0, .int .i64 0]))] w := hM.cast (by kernel_rfl)
      refine hK10 _ _ ?_
      refine wp_seq_k fun K11 hK11 => ?_
      refine wp_region_lit ?_
      refine wl (eL 57 1 0 (v := .agg #[.int .i64 0, .int .i64 0]) hF hM (by kernel_rfl) rfl rfl (by kernel_rfl) (by kernel_rfl) fun a w hF hM => ?_)
      refine wl (eL 58 1 0 (v := .agg #[.int .i64 0, .int .i64 0]) hF hM (by kernel_rfl) rfl rfl (by kernel_rfl) (by kernel_rfl) fun a w hF hM => ?_)
      refine wl (eM 59 (v := .tuple #[.int .i64 0, .int .i64 120]) hF hM (by kernel_rfl) (yld_call (f := 25) (args := #[.agg #[.int .i64 0, .int .i64 0], .agg #[.int .i64 0, .int .i64 0]]) hF (by kernel_rfl) (fun _ => by kernel_rfl) (fun w hM => raCmp_no 0 0 0 0 w (hT.below (Nat.le_refl _) hM.bel) (fun q => absurd q.1 (by decide)))) fun a w hF hM => ?_)
      refine sB 5 [(56, .tuple #[.int .i64 0, .int .i64 120]), (60, .int .i64 0), (61, .int .i64 120), (7, .int .i64 0), (8, .int .i64 120)] hF (by kernel_rfl) fun a hF => ?_
      refine wpList_nil ?_
      refine hK11 _ _ ?_
      refine wp_seq_k fun K12 hK12 => ?_
      refine wp_region_lit ?_
      refine wl (eL 63 1 0 (v := .agg #[.int .i64 0, .int .i64 0]) hF hM (by kernel_rfl) rfl rfl (by kernel_rfl) (by kernel_rfl) fun a w hF hM => ?_)
      refine wl (eM 64 (v := .tuple #[.int .i64 0, .int .i64 120]) hF hM (by kernel_rfl) (yld_call (f := 26) (args := #[.agg #[.int .i64 0, .int .i64 0]]) hF (by kernel_rfl) (fun _ => by kernel_rfl) (fun w hM => raFloor_no 0 0 w (hT.below (Nat.le_refl _) hM.bel) (by decide))) fun a w hF hM => ?_)
      refine sB 5 [(62, .tuple #[.int .i64 0, .int .i64 120]), (65, .int .i64 0), (66, .int .i64 120), (9, .int .i64 0), (10, .int .i64 120)] hF (by kernel_rfl) fun a hF => ?_
      refine wpList_nil ?_
      refine hK12 _ _ ?_
      refine wp_seq_k fun K13 hK13 => ?_
      refine rF (by kernel_rfl) (by kernel_rfl) (fun S a w => ∃ bb4 : Nat, Fr 206 [(0, some (.bool false)), (2, some (.pointer (some ⟨bb1, 0, none⟩))), (4, some (.int .i64 120)), (6, some (.int .i64 120)), (8, some (.int .i64 120)), (10, some (.int .i64 120)), (11, (cond (S.getD 6 false) (some (.pointer (some ⟨bb4, 0, none⟩))) none)), (12, (cond (S.getD 8 false) (some (.int .i64 120)) none)), (40, some (.agg #[.int .i64 0, .int .i64 0, .int .i64 1, .int .i64 0, .int .i64 1, .int .i64 (-1), .int .i64 0, .int .i64 2, .int .i64 1073741825, .int .i64 1, .int .i64 1, .int .i64 1073741825, .int .i64 (-9223372036854775808), .int .i64 1])), (41, some (.int .i64 0)), (67, (cond (S.getD 3 false) (some (.tuple #[.agg #[.int .i64 0, .int .i64 0], .int .i64 120])) none)), (68, (cond (S.getD 0 false) (some (.agg #[.int .i64 1, .int .i64 1])) none)), (69, (cond (S.getD 1 false) (some (.agg #[.int .i64 0, .int .i64 0])) none)), (70, (cond (S.getD 2 false) (some (.tuple #[.agg #[.int .i64 0, .int .i64 0], .int .i64 120])) none)), (71, (cond (S.getD 4 false) (some (.agg #[.int .i64 0, .int .i64 0])) none)), (72, (cond (S.getD 5 false) (some (.int .i64 120)) none))] a ∧ Mem w0.heap.size w0 [(1, some (.row bb1 23 #[.int .i64 0, .int .i64 0])), (4, (cond (S.getD 7 false) (some (.row bb4 23 #[.int .i64 0, .int .i64 0])) (cond (S.getD 6 false) (some (.row bb4 23 #[.int .i64 0, .int .i64 0])) none)))] w) ?_ ?_ ?_
      · exact ⟨0, (((((((((((((((((Fr.nil hF).co hF (i := 72) (by kernel_rfl)).co hF (i := 71) (by kernel_rfl)).co hF (i := 70) (by kernel_rfl)).co hF (i := 69) (by kernel_rfl)).co hF (i := 68) (by kernel_rfl)).co hF (i := 67) (by kernel_rfl)).co hF (i := 41) (by kernel_rfl)).co hF (i := 40) (by kernel_rfl)).co hF (i := 12) (by kernel_rfl)).co hF (i := 11) (by kernel_rfl)).co hF (i := 10) (by kernel_rfl)).co hF (i := 8) (by kernel_rfl)).co hF (i := 6) (by kernel_rfl)).co hF (i := 4) (by kernel_rfl)).co hF (i := 2) (by kernel_rfl)).co hF (i := 0) (by kernel_rfl)), hM.drew.sub ((Sub.nil.co (k := 4) (by kernel_rfl)).co (k := 1) (by kernel_rfl))⟩
      · refine stC ?_ (stC ?_ (stC ?_ (stC ?_ (stC ?_ (stC ?_ (stC ?_ (stC ?_ (stC ?_ (trivial)))))))))
        · intro s0 s1 s2 s3 s4 s5 s6 s7 s8 hc hi hp a w hS
          obtain rfl : s0 = false := hi
          obtain ⟨bb4, hF, hM⟩ := hS
          refine eM 68 (v := .agg #[.int .i64 1, .int .i64 1]) hF hM (by kernel_rfl) (yld_call (f := 28) (args := #[.int .i64 1, .int .i64 1]) hF (by kernel_rfl) (fun _ => by kernel_rfl) (fun w hM => of_w 1 1 w)) fun a w hF hM => ?_
          exact ⟨bb4, ((hF.repl 11 (by kernel_rfl)).cast (by kernel_rfl)), (hM.cast (by kernel_rfl))⟩
        · intro s0 s1 s2 s3 s4 s5 s6 s7 s8 hc hi hp a w hS
          obtain rfl : s1 = false := hi
          obtain ⟨bb4, hF, hM⟩ := hS
          refine eL 69 1 0 (v := .agg #[.int .i64 0, .int .i64 0]) hF hM (by kernel_rfl) rfl rfl (by kernel_rfl) (by kernel_rfl) fun a w hF hM => ?_
          exact ⟨bb4, ((hF.repl 12 (by kernel_rfl)).cast (by kernel_rfl)), (hM.cast (by kernel_rfl))⟩
        · intro s0 s1 s2 s3 s4 s5 s6 s7 s8 hc hi hp a w hS
          obtain rfl : s2 = false := hi
          obtain rfl : s1 = true := hp 1 (by kernel_rfl)
          obtain rfl : s0 = true := hp 0 (by kernel_rfl)
          obtain ⟨bb4, hF, hM⟩ := hS
          refine eM 70 (v := .tuple #[.agg #[.int .i64 0, .int .i64 0], .int .i64 120]) hF hM (by kernel_rfl) (yld_call (f := 29) (args := #[.agg #[.int .i64 1, .int .i64 1], .agg #[.int .i64 0, .int .i64 0]]) hF (by kernel_rfl) (fun _ => by kernel_rfl) (fun w hM => raMax_no 1 1 0 0 w (hT.below (Nat.le_refl _) hM.bel) (fun q => absurd q.2 (by decide)))) fun a w hF hM => ?_
          exact ⟨bb4, ((hF.repl 13 (by kernel_rfl)).cast (by kernel_rfl)), (hM.cast (by kernel_rfl))⟩
        · intro s0 s1 s2 s3 s4 s5 s6 s7 s8 hc hi hp a w hS
          obtain rfl : s3 = false := hi
          obtain rfl : s2 = true := hp 2 (by kernel_rfl)
          obtain ⟨bb4, hF, hM⟩ := hS
          refine eP 67 (v0 := .tuple #[.agg #[.int .i64 0, .int .i64 0], .int .i64 120]) (v := .tuple #[.agg #[.int .i64 0, .int .i64 0], .int .i64 120]) hF (by kernel_rfl) (fun _ => by kernel_rfl) rfl fun a hF => ?_
          exact ⟨bb4, ((hF.repl 10 (by kernel_rfl)).cast (by kernel_rfl)), (hM.cast (by kernel_rfl))⟩
        · intro s0 s1 s2 s3 s4 s5 s6 s7 s8 hc hi hp a w hS
          obtain rfl : s4 = false := hi
          obtain rfl : s3 = true := hp 3 (by kernel_rfl)
          obtain ⟨bb4, hF, hM⟩ := hS
          refine eP 71 (v0 := .agg #[.int .i64 0, .int .i64 0]) (v := .agg #[.int .i64 0, .int .i64 0]) hF (by kernel_rfl) (fun _ => by kernel_rfl) rfl fun a hF => ?_
          exact ⟨bb4, ((hF.repl 14 (by kernel_rfl)).cast (by kernel_rfl)), (hM.cast (by kernel_rfl))⟩
        · intro s0 s1 s2 s3 s4 s5 s6 s7 s8 hc hi hp a w hS
          obtain rfl : s5 = false := hi
          obtain rfl : s3 = true := hp 3 (by kernel_rfl)
          obtain ⟨bb4, hF, hM⟩ := hS
          refine eP 72 (v0 := .int .i64 120) (v := .int .i64 120) hF (by kernel_rfl) (fun _ => by kernel_rfl) rfl fun a hF => ?_
          exact ⟨bb4, ((hF.repl 15 (by kernel_rfl)).cast (by kernel_rfl)), (hM.cast (by kernel_rfl))⟩
        · intro s0 s1 s2 s3 s4 s5 s6 s7 s8 hc hi hp a w hS
          obtain rfl : s6 = false := hi
          obtain rfl : s7 = false := hc.f 7 6 (by kernel_rfl) rfl
          obtain ⟨bb4, hF, hM⟩ := hS
          refine eN 11 4 (t := 23) (fun b => .pointer (some ⟨b, 0, none⟩)) #[.int .i64 0, .int .i64 0] hF hM (by kernel_rfl) (fun _ => by kernel_rfl) fun bb4 a w hF hM => ?_
          exact ⟨bb4, ((hF.repl 6 (by kernel_rfl)).cast (by kernel_rfl)), ((hM.repl 1 (by kernel_rfl)).cast (by kernel_rfl))⟩
        · intro s0 s1 s2 s3 s4 s5 s6 s7 s8 hc hi hp a w hS
          obtain rfl : s7 = false := hi
          obtain rfl : s6 = true := hp 6 (by kernel_rfl)
          obtain rfl : s4 = true := hp 4 (by kernel_rfl)
          obtain ⟨bb4, hF, hM⟩ := hS
          refine sStore (i := 4) (off := 0) (cs' := #[.int .i64 0, .int .i64 0]) hF hM (by kernel_rfl) rfl rfl (by kernel_rfl) (by kernel_rfl) rfl (by kernel_rfl) fun w hM => ?_
          exact ⟨bb4, (hF.cast (by kernel_rfl)), ((hM.repl 1 (by kernel_rfl)).cast (by kernel_rfl))⟩
        · intro s0 s1 s2 s3 s4 s5 s6 s7 s8 hc hi hp a w hS
          obtain rfl : s8 = false := hi
          obtain rfl : s5 = true := hp 5 (by kernel_rfl)
          obtain ⟨bb4, hF, hM⟩ := hS
          refine eP 12 (v0 := .int .i64 120) (v := .int .i64 120) hF (by kernel_rfl) (fun _ => by kernel_rfl) rfl fun a hF => ?_
          exact ⟨bb4, ((hF.repl 7 (by kernel_rfl)).cast (by kernel_rfl)), (hM.cast (by kernel_rfl))⟩
      · intro a w hS
        obtain ⟨bb4, hF, hM⟩ := hS
        replace hF : Fr 206 [(0, some (.bool false)), (2, some (.pointer (some ⟨bb1, 0, none⟩))), (4, some (.int .i64 120)), (6, some (.int .i64 120)), (8, some (.int .i64 120)), (10, some (.int .i64 120)), (11, some (.pointer (some ⟨bb4, 0, none⟩))), (12, some (.int .i64 120)), (40, some (.agg #[.int .i64 0, .int .i64 0, .int .i64 1, .int .i64 0, .int .i64 1, .int .i64 (-1), .int .i64 0, .int .i64 2, .int .i64 1073741825, .int .i64 1, .int .i64 1, .int .i64 1073741825, .int .i64 (-9223372036854775808), .int .i64 1])), (41, some (.int .i64 0)), (67, some (.tuple #[.agg #[.int .i64 0, .int .i64 0], .int .i64 120])), (68, some (.agg #[.int .i64 1, .int .i64 1])), (69, some (.agg #[.int .i64 0, .int .i64 0])), (70, some (.tuple #[.agg #[.int .i64 0, .int .i64 0], .int .i64 120])), (71, some (.agg #[.int .i64 0, .int .i64 0])), (72, some (.int .i64 120))] a := hF.cast (by kernel_rfl)
        replace hM : Mem w0.heap.size w0 [(1, some (.row bb1 23 #[.int .i64 0, .int .i64 0])), (4, some (.row bb4 23 #[.int .i64 0, .int .i64 0]))] w := hM.cast (by kernel_rfl)
        refine hK13 _ _ ?_
        refine wp_seq_k fun K14 hK14 => ?_
        refine wp_region_lit ?_
        refine wl (eL 73 1 0 (v := .agg #[.int .i64 0, .int .i64 0]) hF hM (by kernel_rfl) rfl rfl (by kernel_rfl) (by kernel_rfl) fun a w hF hM => ?_)
        refine wl (eM 74 (v := .int .i64 120) hF hM (by kernel_rfl) (Yld.to (yld_call (f := 12) (args := #[.agg #[.int .i64 0, .int .i64 0]]) hF (by kernel_rfl) (fun _ => by kernel_rfl) (fun w hM => raCheck_w 0 0 w (hT.below (Nat.le_refl _) hM.bel))) (by kernel_rfl)) fun a w hF hM => ?_)
        refine wl (eP 75 (v0 := .bool (!decide (120 = 120))) (v := .bool false) hF (by kernel_rfl) (fun _ => by kernel_rfl) (nT (by omega)) fun a hF => ?_)
        refine sB 2 [(76, .bool false), (77, .int .i64 120)] hF (by kernel_rfl) fun a hF => ?_
        refine wl (eP 78 (v0 := .bool (!decide (120 = 120))) (v := .bool false) hF (by kernel_rfl) (fun _ => by kernel_rfl) (nT (by omega)) fun a hF => ?_)
        refine sB 3 [(79, .bool false), (80, .bool false), (81, .int .i64 120)] hF (by kernel_rfl) fun a hF => ?_
        refine wl (eP 82 (v0 := .bool (!decide (120 = 120))) (v := .bool false) hF (by kernel_rfl) (fun _ => by kernel_rfl) (nT (by omega)) fun a hF => ?_)
        refine sB 3 [(83, .bool false), (84, .bool false), (85, .int .i64 120)] hF (by kernel_rfl) fun a hF => ?_
        refine wl (eP 86 (v0 := .bool (!decide (120 = 120))) (v := .bool false) hF (by kernel_rfl) (fun _ => by kernel_rfl) (nT (by omega)) fun a hF => ?_)
        refine sB 3 [(87, .bool false), (88, .bool false), (89, .int .i64 120)] hF (by kernel_rfl) fun a hF => ?_
        refine wl (eP 90 (v0 := .bool (!decide (120 = 120))) (v := .bool false) hF (by kernel_rfl) (fun _ => by kernel_rfl) (nT (by omega)) fun a hF => ?_)
        refine sB 3 [(91, .bool false), (92, .bool false), (93, .int .i64 120)] hF (by kernel_rfl) fun a hF => ?_
        refine wl (eP 94 (v0 := .bool (!decide (120 = 120))) (v := .bool false) hF (by kernel_rfl) (fun _ => by kernel_rfl) (nT (by omega)) fun a hF => ?_)
        refine sB 1 [(95, .bool false)] hF (by kernel_rfl) fun a hF => ?_
        refine wpList_nil ?_
        refine hK14 _ _ ?_
        refine cF hF (by kernel_rfl) (by kernel_rfl) ?_
        refine wp_skip ?_
        refine hK7 _ _ ?_
        refine wp_region_lit ?_
        refine wl (eP 96 (v0 := .int .i64 (IntKind.i64.wrap (0 + 1))) (v := .int .i64 1) hF (by kernel_rfl) (fun _ => by kernel_rfl) (vi (by decide)) fun a hF => ?_)
        refine sB 1 [(41, .int .i64 1)] hF (by kernel_rfl) fun a hF => ?_
        refine wpList_nil ?_
        refine hK4 _ _ ?_
        refine rounds_k fun K15 hK15 => ?_
        refine wp_seq_k fun K16 hK16 => ?_
        refine wp_region_lit ?_
        refine wl (eP 42 (v0 := .bool (decide (1 < 7))) (v := .bool true) hF (by kernel_rfl) (fun _ => by kernel_rfl) (bT (by omega)) fun a hF => ?_)
        refine wpList_nil ?_
        refine hK16 _ _ ?_
        refine wp_seq_k fun K17 hK17 => ?_
        refine cT hF (by kernel_rfl) (by kernel_rfl) ?_
        refine wp_skip ?_
        refine hK17 _ _ ?_
        refine wp_seq_k fun K18 hK18 => ?_
        refine wp_block ?_
        refine wp_seq_k fun K19 hK19 => ?_
        refine wp_region_lit ?_
        refine sB 1 [(43, .agg #[.int .i64 1, .int .i64 0])] hF (by kernel_rfl) fun a hF => ?_
        refine wl (eN 2 5 (t := 23) (fun b => .pointer (some ⟨b, 0, none⟩)) #[.int .i64 0, .int .i64 0] hF hM (by kernel_rfl) (fun _ => by kernel_rfl) fun bb5 a w hF hM => ?_)
        refine wl (sStore (i := 5) (off := 0) (cs' := #[.int .i64 1, .int .i64 0]) hF hM (by kernel_rfl) rfl rfl (by kernel_rfl) (by kernel_rfl) rfl (by kernel_rfl) fun w hM => ?_)
        refine wpList_nil ?_
        refine hK19 _ _ ?_
        refine wp_seq_k fun K20 hK20 => ?_
        refine rF (by kernel_rfl) (by kernel_rfl) (fun S a w => ∃ bb6 : Nat, Fr 206 [(0, some (.bool false)), (2, some (.pointer (some ⟨bb5, 0, none⟩))), (3, (cond (S.getD 6 false) (some (.pointer (some ⟨bb6, 0, none⟩))) none)), (4, (cond (S.getD 8 false) (some (.int .i64 120)) (some (.int .i64 120)))), (40, some (.agg #[.int .i64 0, .int .i64 0, .int .i64 1, .int .i64 0, .int .i64 1, .int .i64 (-1), .int .i64 0, .int .i64 2, .int .i64 1073741825, .int .i64 1, .int .i64 1, .int .i64 1073741825, .int .i64 (-9223372036854775808), .int .i64 1])), (41, some (.int .i64 1)), (44, (cond (S.getD 3 false) (some (.tuple #[.agg #[.int .i64 0, .int .i64 0], .int .i64 120])) none)), (45, (cond (S.getD 0 false) (some (.agg #[.int .i64 1, .int .i64 0])) none)), (46, (cond (S.getD 1 false) (some (.agg #[.int .i64 1, .int .i64 1])) none)), (47, (cond (S.getD 2 false) (some (.tuple #[.agg #[.int .i64 0, .int .i64 0], .int .i64 120])) none)), (48, (cond (S.getD 4 false) (some (.agg #[.int .i64 0, .int .i64 0])) none)), (49, (cond (S.getD 5 false) (some (.int .i64 120)) none))] a ∧ Mem w0.heap.size w0 [(5, some (.row bb5 23 #[.int .i64 1, .int .i64 0])), (6, (cond (S.getD 7 false) (some (.row bb6 23 #[.int .i64 0, .int .i64 0])) (cond (S.getD 6 false) (some (.row bb6 23 #[.int .i64 0, .int .i64 0])) none)))] w) ?_ ?_ ?_
        · exact ⟨0, (((((((((((((Fr.nil hF).co hF (i := 49) (by kernel_rfl)).co hF (i := 48) (by kernel_rfl)).co hF (i := 47) (by kernel_rfl)).co hF (i := 46) (by kernel_rfl)).co hF (i := 45) (by kernel_rfl)).co hF (i := 44) (by kernel_rfl)).co hF (i := 41) (by kernel_rfl)).co hF (i := 40) (by kernel_rfl)).co hF (i := 4) (by kernel_rfl)).co hF (i := 3) (by kernel_rfl)).co hF (i := 2) (by kernel_rfl)).co hF (i := 0) (by kernel_rfl)), hM.drew.sub ((Sub.nil.co (k := 6) (by kernel_rfl)).co (k := 5) (by kernel_rfl))⟩
        · refine stC ?_ (stC ?_ (stC ?_ (stC ?_ (stC ?_ (stC ?_ (stC ?_ (stC ?_ (stC ?_ (trivial)))))))))
          · intro s0 s1 s2 s3 s4 s5 s6 s7 s8 hc hi hp a w hS
            obtain rfl : s0 = false := hi
            obtain ⟨bb6, hF, hM⟩ := hS
            refine eL 45 5 0 (v := .agg #[.int .i64 1, .int .i64 0]) hF hM (by kernel_rfl) rfl rfl (by kernel_rfl) (by kernel_rfl) fun a w hF hM => ?_
            exact ⟨bb6, ((hF.repl 7 (by kernel_rfl)).cast (by kernel_rfl)), (hM.cast (by kernel_rfl))⟩
          · intro s0 s1 s2 s3 s4 s5 s6 s7 s8 hc hi hp a w hS
            obtain rfl : s1 = false := hi
            obtain ⟨bb6, hF, hM⟩ := hS
            refine eM 46 (v := .agg #[.int .i64 1, .int .i64 1]) hF hM (by kernel_rfl) (yld_call (f := 28) (args := #[.int .i64 1, .int .i64 1]) hF (by kernel_rfl) (fun _ => by kernel_rfl) (fun w hM => of_w 1 1 w)) fun a w hF hM => ?_
            exact ⟨bb6, ((hF.repl 8 (by kernel_rfl)).cast (by kernel_rfl)), (hM.cast (by kernel_rfl))⟩
          · intro s0 s1 s2 s3 s4 s5 s6 s7 s8 hc hi hp a w hS
            obtain rfl : s2 = false := hi
            obtain rfl : s1 = true := hp 1 (by kernel_rfl)
            obtain rfl : s0 = true := hp 0 (by kernel_rfl)
            obtain ⟨bb6, hF, hM⟩ := hS
            refine eM 47 (v := .tuple #[.agg #[.int .i64 0, .int .i64 0], .int .i64 120]) hF hM (by kernel_rfl) (yld_call (f := 16) (args := #[.agg #[.int .i64 1, .int .i64 0], .agg #[.int .i64 1, .int .i64 1]]) hF (by kernel_rfl) (fun _ => by kernel_rfl) (fun w hM => raAdd_no 1 0 1 1 w (hT.below (Nat.le_refl _) hM.bel) (fun q => absurd q.1 (by decide)))) fun a w hF hM => ?_
            exact ⟨bb6, ((hF.repl 9 (by kernel_rfl)).cast (by kernel_rfl)), (hM.cast (by kernel_rfl))⟩
          · intro s0 s1 s2 s3 s4 s5 s6 s7 s8 hc hi hp a w hS
            obtain rfl : s3 = false := hi
            obtain rfl : s2 = true := hp 2 (by kernel_rfl)
            obtain ⟨bb6, hF, hM⟩ := hS
            refine eP 44 (v0 := .tuple #[.agg #[.int .i64 0, .int .i64 0], .int .i64 120]) (v := .tuple #[.agg #[.int .i64 0, .int .i64 0], .int .i64 120]) hF (by kernel_rfl) (fun _ => by kernel_rfl) rfl fun a hF => ?_
            exact ⟨bb6, ((hF.repl 6 (by kernel_rfl)).cast (by kernel_rfl)), (hM.cast (by kernel_rfl))⟩
          · intro s0 s1 s2 s3 s4 s5 s6 s7 s8 hc hi hp a w hS
            obtain rfl : s4 = false := hi
            obtain rfl : s3 = true := hp 3 (by kernel_rfl)
            obtain ⟨bb6, hF, hM⟩ := hS
            refine eP 48 (v0 := .agg #[.int .i64 0, .int .i64 0]) (v := .agg #[.int .i64 0, .int .i64 0]) hF (by kernel_rfl) (fun _ => by kernel_rfl) rfl fun a hF => ?_
            exact ⟨bb6, ((hF.repl 10 (by kernel_rfl)).cast (by kernel_rfl)), (hM.cast (by kernel_rfl))⟩
          · intro s0 s1 s2 s3 s4 s5 s6 s7 s8 hc hi hp a w hS
            obtain rfl : s5 = false := hi
            obtain rfl : s3 = true := hp 3 (by kernel_rfl)
            obtain ⟨bb6, hF, hM⟩ := hS
            refine eP 49 (v0 := .int .i64 120) (v := .int .i64 120) hF (by kernel_rfl) (fun _ => by kernel_rfl) rfl fun a hF => ?_
            exact ⟨bb6, ((hF.repl 11 (by kernel_rfl)).cast (by kernel_rfl)), (hM.cast (by kernel_rfl))⟩
          · intro s0 s1 s2 s3 s4 s5 s6 s7 s8 hc hi hp a w hS
            obtain rfl : s6 = false := hi
            obtain rfl : s7 = false := hc.f 7 6 (by kernel_rfl) rfl
            obtain ⟨bb6, hF, hM⟩ := hS
            refine eN 3 6 (t := 23) (fun b => .pointer (some ⟨b, 0, none⟩)) #[.int .i64 0, .int .i64 0] hF hM (by kernel_rfl) (fun _ => by kernel_rfl) fun bb6 a w hF hM => ?_
            exact ⟨bb6, ((hF.repl 2 (by kernel_rfl)).cast (by kernel_rfl)), ((hM.repl 1 (by kernel_rfl)).cast (by kernel_rfl))⟩
          · intro s0 s1 s2 s3 s4 s5 s6 s7 s8 hc hi hp a w hS
            obtain rfl : s7 = false := hi
            obtain rfl : s6 = true := hp 6 (by kernel_rfl)
            obtain rfl : s4 = true := hp 4 (by kernel_rfl)
            obtain ⟨bb6, hF, hM⟩ := hS
            refine sStore (i := 6) (off := 0) (cs' := #[.int .i64 0, .int .i64 0]) hF hM (by kernel_rfl) rfl rfl (by kernel_rfl) (by kernel_rfl) rfl (by kernel_rfl) fun w hM => ?_
            exact ⟨bb6, (hF.cast (by kernel_rfl)), ((hM.repl 1 (by kernel_rfl)).cast (by kernel_rfl))⟩
          · intro s0 s1 s2 s3 s4 s5 s6 s7 s8 hc hi hp a w hS
            obtain rfl : s8 = false := hi
            obtain rfl : s5 = true := hp 5 (by kernel_rfl)
            obtain ⟨bb6, hF, hM⟩ := hS
            refine eP 4 (v0 := .int .i64 120) (v := .int .i64 120) hF (by kernel_rfl) (fun _ => by kernel_rfl) rfl fun a hF => ?_
            exact ⟨bb6, ((hF.repl 3 (by kernel_rfl)).cast (by kernel_rfl)), (hM.cast (by kernel_rfl))⟩
        · intro a w hS
          obtain ⟨bb6, hF, hM⟩ := hS
          replace hF : Fr 206 [(0, some (.bool false)), (2, some (.pointer (some ⟨bb5, 0, none⟩))), (3, some (.pointer (some ⟨bb6, 0, none⟩))), (4, some (.int .i64 120)), (40, some (.agg #[.int .i64 0, .int .i64 0, .int .i64 1, .int .i64 0, .int .i64 1, .int .i64 (-1), .int .i64 0, .int .i64 2, .int .i64 1073741825, .int .i64 1, .int .i64 1, .int .i64 1073741825, .int .i64 (-9223372036854775808), .int .i64 1])), (41, some (.int .i64 1)), (44, some (.tuple #[.agg #[.int .i64 0, .int .i64 0], .int .i64 120])), (45, some (.agg #[.int .i64 1, .int .i64 0])), (46, some (.agg #[.int .i64 1, .int .i64 1])), (47, some (.tuple #[.agg #[.int .i64 0, .int .i64 0], .int .i64 120])), (48, some (.agg #[.int .i64 0, .int .i64 0])), (49, some (.int .i64 120))] a := hF.cast (by kernel_rfl)
          replace hM : Mem w0.heap.size w0 [(5, some (.row bb5 23 #[.int .i64 1, .int .i64 0])), (6, some (.row bb6 23 #[.int .i64 0, .int .i64 0]))] w := hM.cast (by kernel_rfl)
          refine hK20 _ _ ?_
          refine wp_seq_k fun K21 hK21 => ?_
          refine rF (by kernel_rfl) (by kernel_rfl) (fun S a w => ∃ bb7 : Nat, Fr 206 [(0, some (.bool false)), (2, some (.pointer (some ⟨bb5, 0, none⟩))), (4, some (.int .i64 120)), (5, (cond (S.getD 6 false) (some (.pointer (some ⟨bb7, 0, none⟩))) none)), (6, (cond (S.getD 8 false) (some (.int .i64 120)) none)), (40, some (.agg #[.int .i64 0, .int .i64 0, .int .i64 1, .int .i64 0, .int .i64 1, .int .i64 (-1), .int .i64 0, .int .i64 2, .int .i64 1073741825, .int .i64 1, .int .i64 1, .int .i64 1073741825, .int .i64 (-9223372036854775808), .int .i64 1])), (41, some (.int .i64 1)), (50, (cond (S.getD 3 false) (some (.tuple #[.agg #[.int .i64 0, .int .i64 0], .int .i64 120])) none)), (51, (cond (S.getD 0 false) (some (.agg #[.int .i64 1, .int .i64 1])) none)), (52, (cond (S.getD 1 false) (some (.agg #[.int .i64 1, .int .i64 0])) none)), (53, (cond (S.getD 2 false) (some (.tuple #[.agg #[.int .i64 0, .int .i64 0], .int .i64 120])) none)), (54, (cond (S.getD 4 false) (some (.agg #[.int .i64 0, .int .i64 0])) none)), (55, (cond (S.getD 5 false) (some (.int .i64 120)) none))] a ∧ Mem w0.heap.size w0 [(5, some (.row bb5 23 #[.int .i64 1, .int .i64 0])), (7, (cond (S.getD 7 false) (some (.row bb7 23 #[.int .i64 0, .int .i64 0])) (cond (S.getD 6 false) (some (.row bb7 23 #[.int .i64 0, .int .i64 0])) none)))] w) ?_ ?_ ?_
          · exact ⟨0, ((((((((((((((Fr.nil hF).co hF (i := 55) (by kernel_rfl)).co hF (i := 54) (by kernel_rfl)).co hF (i := 53) (by kernel_rfl)).co hF (i := 52) (by kernel_rfl)).co hF (i := 51) (by kernel_rfl)).co hF (i := 50) (by kernel_rfl)).co hF (i := 41) (by kernel_rfl)).co hF (i := 40) (by kernel_rfl)).co hF (i := 6) (by kernel_rfl)).co hF (i := 5) (by kernel_rfl)).co hF (i := 4) (by kernel_rfl)).co hF (i := 2) (by kernel_rfl)).co hF (i := 0) (by kernel_rfl)), hM.drew.sub ((Sub.nil.co (k := 7) (by kernel_rfl)).co (k := 5) (by kernel_rfl))⟩
          · refine stC ?_ (stC ?_ (stC ?_ (stC ?_ (stC ?_ (stC ?_ (stC ?_ (stC ?_ (stC ?_ (trivial)))))))))
            · intro s0 s1 s2 s3 s4 s5 s6 s7 s8 hc hi hp a w hS
              obtain rfl : s0 = false := hi
              obtain ⟨bb7, hF, hM⟩ := hS
              refine eM 51 (v := .agg #[.int .i64 1, .int .i64 1]) hF hM (by kernel_rfl) (yld_call (f := 28) (args := #[.int .i64 1, .int .i64 1]) hF (by kernel_rfl) (fun _ => by kernel_rfl) (fun w hM => of_w 1 1 w)) fun a w hF hM => ?_
              exact ⟨bb7, ((hF.repl 8 (by kernel_rfl)).cast (by kernel_rfl)), (hM.cast (by kernel_rfl))⟩
            · intro s0 s1 s2 s3 s4 s5 s6 s7 s8 hc hi hp a w hS
              obtain rfl : s1 = false := hi
              obtain ⟨bb7, hF, hM⟩ := hS
              refine eL 52 5 0 (v := .agg #[.int .i64 1, .int .i64 0]) hF hM (by kernel_rfl) rfl rfl (by kernel_rfl) (by kernel_rfl) fun a w hF hM => ?_
              exact ⟨bb7, ((hF.repl 9 (by kernel_rfl)).cast (by kernel_rfl)), (hM.cast (by kernel_rfl))⟩
            · intro s0 s1 s2 s3 s4 s5 s6 s7 s8 hc hi hp a w hS
              obtain rfl : s2 = false := hi
              obtain rfl : s1 = true := hp 1 (by kernel_rfl)
              obtain rfl : s0 = true := hp 0 (by kernel_rfl)
              obtain ⟨bb7, hF, hM⟩ := hS
              refine eM 53 (v := .tuple #[.agg #[.int .i64 0, .int .i64 0], .int .i64 120]) hF hM (by kernel_rfl) (yld_call (f := 22) (args := #[.agg #[.int .i64 1, .int .i64 1], .agg #[.int .i64 1, .int .i64 0]]) hF (by kernel_rfl) (fun _ => by kernel_rfl) (fun w hM => raDiv_no 1 1 1 0 w (hT.below (Nat.le_refl _) hM.bel) (fun q => absurd q.2 (by decide)))) fun a w hF hM => ?_
              exact ⟨bb7, ((hF.repl 10 (by kernel_rfl)).cast (by kernel_rfl)), (hM.cast (by kernel_rfl))⟩
            · intro s0 s1 s2 s3 s4 s5 s6 s7 s8 hc hi hp a w hS
              obtain rfl : s3 = false := hi
              obtain rfl : s2 = true := hp 2 (by kernel_rfl)
              obtain ⟨bb7, hF, hM⟩ := hS
              refine eP 50 (v0 := .tuple #[.agg #[.int .i64 0, .int .i64 0], .int .i64 120]) (v := .tuple #[.agg #[.int .i64 0, .int .i64 0], .int .i64 120]) hF (by kernel_rfl) (fun _ => by kernel_rfl) rfl fun a hF => ?_
              exact ⟨bb7, ((hF.repl 7 (by kernel_rfl)).cast (by kernel_rfl)), (hM.cast (by kernel_rfl))⟩
            · intro s0 s1 s2 s3 s4 s5 s6 s7 s8 hc hi hp a w hS
              obtain rfl : s4 = false := hi
              obtain rfl : s3 = true := hp 3 (by kernel_rfl)
              obtain ⟨bb7, hF, hM⟩ := hS
              refine eP 54 (v0 := .agg #[.int .i64 0, .int .i64 0]) (v := .agg #[.int .i64 0, .int .i64 0]) hF (by kernel_rfl) (fun _ => by kernel_rfl) rfl fun a hF => ?_
              exact ⟨bb7, ((hF.repl 11 (by kernel_rfl)).cast (by kernel_rfl)), (hM.cast (by kernel_rfl))⟩
            · intro s0 s1 s2 s3 s4 s5 s6 s7 s8 hc hi hp a w hS
              obtain rfl : s5 = false := hi
              obtain rfl : s3 = true := hp 3 (by kernel_rfl)
              obtain ⟨bb7, hF, hM⟩ := hS
              refine eP 55 (v0 := .int .i64 120) (v := .int .i64 120) hF (by kernel_rfl) (fun _ => by kernel_rfl) rfl fun a hF => ?_
              exact ⟨bb7, ((hF.repl 12 (by kernel_rfl)).cast (by kernel_rfl)), (hM.cast (by kernel_rfl))⟩
            · intro s0 s1 s2 s3 s4 s5 s6 s7 s8 hc hi hp a w hS
              obtain rfl : s6 = false := hi
              obtain rfl : s7 = false := hc.f 7 6 (by kernel_rfl) rfl
              obtain ⟨bb7, hF, hM⟩ := hS
              refine eN 5 7 (t := 23) (fun b => .pointer (some ⟨b, 0, none⟩)) #[.int .i64 0, .int .i64 0] hF hM (by kernel_rfl) (fun _ => by kernel_rfl) fun bb7 a w hF hM => ?_
              exact ⟨bb7, ((hF.repl 3 (by kernel_rfl)).cast (by kernel_rfl)), ((hM.repl 1 (by kernel_rfl)).cast (by kernel_rfl))⟩
            · intro s0 s1 s2 s3 s4 s5 s6 s7 s8 hc hi hp a w hS
              obtain rfl : s7 = false := hi
              obtain rfl : s6 = true := hp 6 (by kernel_rfl)
              obtain rfl : s4 = true := hp 4 (by kernel_rfl)
              obtain ⟨bb7, hF, hM⟩ := hS
              refine sStore (i := 7) (off := 0) (cs' := #[.int .i64 0, .int .i64 0]) hF hM (by kernel_rfl) rfl rfl (by kernel_rfl) (by kernel_rfl) rfl (by kernel_rfl) fun w hM => ?_
              exact ⟨bb7, (hF.cast (by kernel_rfl)), ((hM.repl 1 (by kernel_rfl)).cast (by kernel_rfl))⟩
            · intro s0 s1 s2 s3 s4 s5 s6 s7 s8 hc hi hp a w hS
              obtain rfl : s8 = false := hi
              obtain rfl : s5 = true := hp 5 (by kernel_rfl)
              obtain ⟨bb7, hF, hM⟩ := hS
              refine eP 6 (v0 := .int .i64 120) (v := .int .i64 120) hF (by kernel_rfl) (fun _ => by kernel_rfl) rfl fun a hF => ?_
              exact ⟨bb7, ((hF.repl 4 (by kernel_rfl)).cast (by kernel_rfl)), (hM.cast (by kernel_rfl))⟩
          · intro a w hS
            obtain ⟨bb7, hF, hM⟩ := hS
            replace hF : Fr 206 [(0, some (.bool false)), (2, some (.pointer (some ⟨bb5, 0, none⟩))), (4, some (.int .i64 120)), (5, some (.pointer (some ⟨bb7, 0, none⟩))), (6, some (.int .i64 120)), (40, some (.agg #[.int .i64 0, .int .i64 0, .int .i64 1, .int .i64 0, .int .i64 1, .int .i64 (-1), .int .i64 0, .int .i64 2, .int .i64 1073741825, .int .i64 1, .int .i64 1, .int .i64 1073741825, .int .i64 (-9223372036854775808), .int .i64 1])), (41, some (.int .i64 1)), (50, some (.tuple #[.agg #[.int .i64 0, .int .i64 0], .int .i64 120])), (51, some (.agg #[.int .i64 1, .int .i64 1])), (52, some (.agg #[.int .i64 1, .int .i64 0])), (53, some (.tuple #[.agg #[.int .i64 0, .int .i64 0], .int .i64 120])), (54, some (.agg #[.int .i64 0, .int .i64 0])), (55, some (.int .i64 120))] a := hF.cast (by kernel_rfl)
            replace hM : Mem w0.heap.size w0 [(5, some (.row bb5 23 #[.int .i64 1, .int .i64 0])), (7, some (.row bb7 23 #[.int .i64 0, .int .i64 0]))] w := hM.cast (by kernel_rfl)
            refine hK21 _ _ ?_
            refine wp_seq_k fun K22 hK22 => ?_
            refine wp_region_lit ?_
            refine wl (eL 57 5 0 (v := .agg #[.int .i64 1, .int .i64 0]) hF hM (by kernel_rfl) rfl rfl (by kernel_rfl) (by kernel_rfl) fun a w hF hM => ?_)
            refine wl (eL 58 5 0 (v := .agg #[.int .i64 1, .int .i64 0]) hF hM (by kernel_rfl) rfl rfl (by kernel_rfl) (by kernel_rfl) fun a w hF hM => ?_)
            refine wl (eM 59 (v := .tuple #[.int .i64 0, .int .i64 120]) hF hM (by kernel_rfl) (yld_call (f := 25) (args := #[.agg #[.int .i64 1, .int .i64 0], .agg #[.int .i64 1, .int .i64 0]]) hF (by kernel_rfl) (fun _ => by kernel_rfl) (fun w hM => raCmp_no 1 0 1 0 w (hT.below (Nat.le_refl _) hM.bel) (fun q => absurd q.1 (by decide)))) fun a w hF hM => ?_)
            refine sB 5 [(56, .tuple #[.int .i64 0, .int .i64 120]), (60, .int .i64 0), (61, .int .i64 120), (7, .int .i64 0), (8, .int .i64 120)] hF (by kernel_rfl) fun a hF => ?_
            refine wpList_nil ?_
            refine hK22 _ _ ?_
            refine wp_seq_k fun K23 hK23 => ?_
            refine wp_region_lit ?_
            refine wl (eL 63 5 0 (v := .agg #[.int .i64 1, .int .i64 0]) hF hM (by kernel_rfl) rfl rfl (by kernel_rfl) (by kernel_rfl) fun a w hF hM => ?_)
            refine wl (eM 64 (v := .tuple #[.int .i64 0, .int .i64 120]) hF hM (by kernel_rfl) (yld_call (f := 26) (args := #[.agg #[.int .i64 1, .int .i64 0]]) hF (by kernel_rfl) (fun _ => by kernel_rfl) (fun w hM => raFloor_no 1 0 w (hT.below (Nat.le_refl _) hM.bel) (by decide))) fun a w hF hM => ?_)
            refine sB 5 [(62, .tuple #[.int .i64 0, .int .i64 120]), (65, .int .i64 0), (66, .int .i64 120), (9, .int .i64 0), (10, .int .i64 120)] hF (by kernel_rfl) fun a hF => ?_
            refine wpList_nil ?_
            refine hK23 _ _ ?_
            refine wp_seq_k fun K24 hK24 => ?_
            refine rF (by kernel_rfl) (by kernel_rfl) (fun S a w => ∃ bb8 : Nat, Fr 206 [(0, some (.bool false)), (2, some (.pointer (some ⟨bb5, 0, none⟩))), (4, some (.int .i64 120)), (6, some (.int .i64 120)), (8, some (.int .i64 120)), (10, some (.int .i64 120)), (11, (cond (S.getD 6 false) (some (.pointer (some ⟨bb8, 0, none⟩))) none)), (12, (cond (S.getD 8 false) (some (.int .i64 120)) none)), (40, some (.agg #[.int .i64 0, .int .i64 0, .int .i64 1, .int .i64 0, .int .i64 1, .int .i64 (-1), .int .i64 0, .int .i64 2, .int .i64 1073741825, .int .i64 1, .int .i64 1, .int .i64 1073741825, .int .i64 (-9223372036854775808), .int .i64 1])), (41, some (.int .i64 1)), (67, (cond (S.getD 3 false) (some (.tuple #[.agg #[.int .i64 0, .int .i64 0], .int .i64 120])) none)), (68, (cond (S.getD 0 false) (some (.agg #[.int .i64 1, .int .i64 1])) none)), (69, (cond (S.getD 1 false) (some (.agg #[.int .i64 1, .int .i64 0])) none)), (70, (cond (S.getD 2 false) (some (.tuple #[.agg #[.int .i64 0, .int .i64 0], .int .i64 120])) none)), (71, (cond (S.getD 4 false) (some (.agg #[.int .i64 0, .int .i64 0])) none)), (72, (cond (S.getD 5 false) (some (.int .i64 120)) none))] a ∧ Mem w0.heap.size w0 [(5, some (.row bb5 23 #[.int .i64 1, .int .i64 0])), (8, (cond (S.getD 7 false) (some (.row bb8 23 #[.int .i64 0, .int .i64 0])) (cond (S.getD 6 false) (some (.row bb8 23 #[.int .i64 0, .int .i64 0])) none)))] w) ?_ ?_ ?_
            · exact ⟨0, (((((((((((((((((Fr.nil hF).co hF (i := 72) (by kernel_rfl)).co hF (i := 71) (by kernel_rfl)).co hF (i := 70) (by kernel_rfl)).co hF (i := 69) (by kernel_rfl)).co hF (i := 68) (by kernel_rfl)).co hF (i := 67) (by kernel_rfl)).co hF (i := 41) (by kernel_rfl)).co hF (i := 40) (by kernel_rfl)).co hF (i := 12) (by kernel_rfl)).co hF (i := 11) (by kernel_rfl)).co hF (i := 10) (by kernel_rfl)).co hF (i := 8) (by kernel_rfl)).co hF (i := 6) (by kernel_rfl)).co hF (i := 4) (by kernel_rfl)).co hF (i := 2) (by kernel_rfl)).co hF (i := 0) (by kernel_rfl)), hM.drew.sub ((Sub.nil.co (k := 8) (by kernel_rfl)).co (k := 5) (by kernel_rfl))⟩
            · refine stC ?_ (stC ?_ (stC ?_ (stC ?_ (stC ?_ (stC ?_ (stC ?_ (stC ?_ (stC ?_ (trivial)))))))))
              · intro s0 s1 s2 s3 s4 s5 s6 s7 s8 hc hi hp a w hS
                obtain rfl : s0 = false := hi
                obtain ⟨bb8, hF, hM⟩ := hS
                refine eM 68 (v := .agg #[.int .i64 1, .int .i64 1]) hF hM (by kernel_rfl) (yld_call (f := 28) (args := #[.int .i64 1, .int .i64 1]) hF (by kernel_rfl) (fun _ => by kernel_rfl) (fun w hM => of_w 1 1 w)) fun a w hF hM => ?_
                exact ⟨bb8, ((hF.repl 11 (by kernel_rfl)).cast (by kernel_rfl)), (hM.cast (by kernel_rfl))⟩
              · intro s0 s1 s2 s3 s4 s5 s6 s7 s8 hc hi hp a w hS
                obtain rfl : s1 = false := hi
                obtain ⟨bb8, hF, hM⟩ := hS
                refine eL 69 5 0 (v := .agg #[.int .i64 1, .int .i64 0]) hF hM (by kernel_rfl) rfl rfl (by kernel_rfl) (by kernel_rfl) fun a w hF hM => ?_
                exact ⟨bb8, ((hF.repl 12 (by kernel_rfl)).cast (by kernel_rfl)), (hM.cast (by kernel_rfl))⟩
              · intro s0 s1 s2 s3 s4 s5 s6 s7 s8 hc hi hp a w hS
                obtain rfl : s2 = false := hi
                obtain rfl : s1 = true := hp 1 (by kernel_rfl)
                obtain rfl : s0 = true := hp 0 (by kernel_rfl)
                obtain ⟨bb8, hF, hM⟩ := hS
                refine eM 70 (v := .tuple #[.agg #[.int .i64 0, .int .i64 0], .int .i64 120]) hF hM (by kernel_rfl) (yld_call (f := 29) (args := #[.agg #[.int .i64 1, .int .i64 1], .agg #[.int .i64 1, .int .i64 0]]) hF (by kernel_rfl) (fun _ => by kernel_rfl) (fun w hM => raMax_no 1 1 1 0 w (hT.below (Nat.le_refl _) hM.bel) (fun q => absurd q.2 (by decide)))) fun a w hF hM => ?_
                exact ⟨bb8, ((hF.repl 13 (by kernel_rfl)).cast (by kernel_rfl)), (hM.cast (by kernel_rfl))⟩
              · intro s0 s1 s2 s3 s4 s5 s6 s7 s8 hc hi hp a w hS
                obtain rfl : s3 = false := hi
                obtain rfl : s2 = true := hp 2 (by kernel_rfl)
                obtain ⟨bb8, hF, hM⟩ := hS
                refine eP 67 (v0 := .tuple #[.agg #[.int .i64 0, .int .i64 0], .int .i64 120]) (v := .tuple #[.agg #[.int .i64 0, .int .i64 0], .int .i64 120]) hF (by kernel_rfl) (fun _ => by kernel_rfl) rfl fun a hF => ?_
                exact ⟨bb8, ((hF.repl 10 (by kernel_rfl)).cast (by kernel_rfl)), (hM.cast (by kernel_rfl))⟩
              · intro s0 s1 s2 s3 s4 s5 s6 s7 s8 hc hi hp a w hS
                obtain rfl : s4 = false := hi
                obtain rfl : s3 = true := hp 3 (by kernel_rfl)
                obtain ⟨bb8, hF, hM⟩ := hS
                refine eP 71 (v0 := .agg #[.int .i64 0, .int .i64 0]) (v := .agg #[.int .i64 0, .int .i64 0]) hF (by kernel_rfl) (fun _ => by kernel_rfl) rfl fun a hF => ?_
                exact ⟨bb8, ((hF.repl 14 (by kernel_rfl)).cast (by kernel_rfl)), (hM.cast (by kernel_rfl))⟩
              · intro s0 s1 s2 s3 s4 s5 s6 s7 s8 hc hi hp a w hS
                obtain rfl : s5 = false := hi
                obtain rfl : s3 = true := hp 3 (by kernel_rfl)
                obtain ⟨bb8, hF, hM⟩ := hS
                refine eP 72 (v0 := .int .i64 120) (v := .int .i64 120) hF (by kernel_rfl) (fun _ => by kernel_rfl) rfl fun a hF => ?_
                exact ⟨bb8, ((hF.repl 15 (by kernel_rfl)).cast (by kernel_rfl)), (hM.cast (by kernel_rfl))⟩
              · intro s0 s1 s2 s3 s4 s5 s6 s7 s8 hc hi hp a w hS
                obtain rfl : s6 = false := hi
                obtain rfl : s7 = false := hc.f 7 6 (by kernel_rfl) rfl
                obtain ⟨bb8, hF, hM⟩ := hS
                refine eN 11 8 (t := 23) (fun b => .pointer (some ⟨b, 0, none⟩)) #[.int .i64 0, .int .i64 0] hF hM (by kernel_rfl) (fun _ => by kernel_rfl) fun bb8 a w hF hM => ?_
                exact ⟨bb8, ((hF.repl 6 (by kernel_rfl)).cast (by kernel_rfl)), ((hM.repl 1 (by kernel_rfl)).cast (by kernel_rfl))⟩
              · intro s0 s1 s2 s3 s4 s5 s6 s7 s8 hc hi hp a w hS
                obtain rfl : s7 = false := hi
                obtain rfl : s6 = true := hp 6 (by kernel_rfl)
                obtain rfl : s4 = true := hp 4 (by kernel_rfl)
                obtain ⟨bb8, hF, hM⟩ := hS
                refine sStore (i := 8) (off := 0) (cs' := #[.int .i64 0, .int .i64 0]) hF hM (by kernel_rfl) rfl rfl (by kernel_rfl) (by kernel_rfl) rfl (by kernel_rfl) fun w hM => ?_
                exact ⟨bb8, (hF.cast (by kernel_rfl)), ((hM.repl 1 (by kernel_rfl)).cast (by kernel_rfl))⟩
              · intro s0 s1 s2 s3 s4 s5 s6 s7 s8 hc hi hp a w hS
                obtain rfl : s8 = false := hi
                obtain rfl : s5 = true := hp 5 (by kernel_rfl)
                obtain ⟨bb8, hF, hM⟩ := hS
                refine eP 12 (v0 := .int .i64 120) (v := .int .i64 120) hF (by kernel_rfl) (fun _ => by kernel_rfl) rfl fun a hF => ?_
                exact ⟨bb8, ((hF.repl 7 (by kernel_rfl)).cast (by kernel_rfl)), (hM.cast (by kernel_rfl))⟩
            · intro a w hS
              obtain ⟨bb8, hF, hM⟩ := hS
              replace hF : Fr 206 [(0, some (.bool false)), (2, some (.pointer (some ⟨bb5, 0, none⟩))), (4, some (.int .i64 120)), (6, some (.int .i64 120)), (8, some (.int .i64 120)), (10, some (.int .i64 120)), (11, some (.pointer (some ⟨bb8, 0, none⟩))), (12, some (.int .i64 120)), (40, some (.agg #[.int .i64 0, .int .i64 0, .int .i64 1, .int .i64 0, .int .i64 1, .int .i64 (-1), .int .i64 0, .int .i64 2, .int .i64 1073741825, .int .i64 1, .int .i64 1, .int .i64 1073741825, .int .i64 (-9223372036854775808), .int .i64 1])), (41, some (.int .i64 1)), (67, some (.tuple #[.agg #[.int .i64 0, .int .i64 0], .int .i64 120])), (68, some (.agg #[.int .i64 1, .int .i64 1])), (69, some (.agg #[.int .i64 1, .int .i64 0])), (70, some (.tuple #[.agg #[.int .i64 0, .int .i64 0], .int .i64 120])), (71, some (.agg #[.int .i64 0, .int .i64 0])), (72, some (.int .i64 120))] a := hF.cast (by kernel_rfl)
              replace hM : Mem w0.heap.size w0 [(5, some (.row bb5 23 #[.int .i64 1, .int .i64 0])), (8, some (.row bb8 23 #[.int .i64 0, .int .i64 0]))] w := hM.cast (by kernel_rfl)
              refine hK24 _ _ ?_
              refine wp_seq_k fun K25 hK25 => ?_
              refine wp_region_lit ?_
              refine wl (eL 73 5 0 (v := .agg #[.int .i64 1, .int .i64 0]) hF hM (by kernel_rfl) rfl rfl (by kernel_rfl) (by kernel_rfl) fun a w hF hM => ?_)
              refine wl (eM 74 (v := .int .i64 120) hF hM (by kernel_rfl) (Yld.to (yld_call (f := 12) (args := #[.agg #[.int .i64 1, .int .i64 0]]) hF (by kernel_rfl) (fun _ => by kernel_rfl) (fun w hM => raCheck_w 1 0 w (hT.below (Nat.le_refl _) hM.bel))) (by kernel_rfl)) fun a w hF hM => ?_)
              refine wl (eP 75 (v0 := .bool (!decide (120 = 120))) (v := .bool false) hF (by kernel_rfl) (fun _ => by kernel_rfl) (nT (by omega)) fun a hF => ?_)
              refine sB 2 [(76, .bool false), (77, .int .i64 120)] hF (by kernel_rfl) fun a hF => ?_
              refine wl (eP 78 (v0 := .bool (!decide (120 = 120))) (v := .bool false) hF (by kernel_rfl) (fun _ => by kernel_rfl) (nT (by omega)) fun a hF => ?_)
              refine sB 3 [(79, .bool false), (80, .bool false), (81, .int .i64 120)] hF (by kernel_rfl) fun a hF => ?_
              refine wl (eP 82 (v0 := .bool (!decide (120 = 120))) (v := .bool false) hF (by kernel_rfl) (fun _ => by kernel_rfl) (nT (by omega)) fun a hF => ?_)
              refine sB 3 [(83, .bool false), (84, .bool false), (85, .int .i64 120)] hF (by kernel_rfl) fun a hF => ?_
              refine wl (eP 86 (v0 := .bool (!decide (120 = 120))) (v := .bool false) hF (by kernel_rfl) (fun _ => by kernel_rfl) (nT (by omega)) fun a hF => ?_)
              refine sB 3 [(87, .bool false), (88, .bool false), (89, .int .i64 120)] hF (by kernel_rfl) fun a hF => ?_
              refine wl (eP 90 (v0 := .bool (!decide (120 = 120))) (v := .bool false) hF (by kernel_rfl) (fun _ => by kernel_rfl) (nT (by omega)) fun a hF => ?_)
              refine sB 3 [(91, .bool false), (92, .bool false), (93, .int .i64 120)] hF (by kernel_rfl) fun a hF => ?_
              refine wl (eP 94 (v0 := .bool (!decide (120 = 120))) (v := .bool false) hF (by kernel_rfl) (fun _ => by kernel_rfl) (nT (by omega)) fun a hF => ?_)
              refine sB 1 [(95, .bool false)] hF (by kernel_rfl) fun a hF => ?_
              refine wpList_nil ?_
              refine hK25 _ _ ?_
              refine cF hF (by kernel_rfl) (by kernel_rfl) ?_
              refine wp_skip ?_
              refine hK18 _ _ ?_
              refine wp_region_lit ?_
              refine wl (eP 96 (v0 := .int .i64 (IntKind.i64.wrap (1 + 1))) (v := .int .i64 2) hF (by kernel_rfl) (fun _ => by kernel_rfl) (vi (by decide)) fun a hF => ?_)
              refine sB 1 [(41, .int .i64 2)] hF (by kernel_rfl) fun a hF => ?_
              refine wpList_nil ?_
              refine hK15 _ _ ?_
              refine rounds_k fun K26 hK26 => ?_
              refine wp_seq_k fun K27 hK27 => ?_
              refine wp_region_lit ?_
              refine wl (eP 42 (v0 := .bool (decide (2 < 7))) (v := .bool true) hF (by kernel_rfl) (fun _ => by kernel_rfl) (bT (by omega)) fun a hF => ?_)
              refine wpList_nil ?_
              refine hK27 _ _ ?_
              refine wp_seq_k fun K28 hK28 => ?_
              refine cT hF (by kernel_rfl) (by kernel_rfl) ?_
              refine wp_skip ?_
              refine hK28 _ _ ?_
              refine wp_seq_k fun K29 hK29 => ?_
              refine wp_block ?_
              refine wp_seq_k fun K30 hK30 => ?_
              refine wp_region_lit ?_
              refine sB 1 [(43, .agg #[.int .i64 1, .int .i64 (-1)])] hF (by kernel_rfl) fun a hF => ?_
              refine wl (eN 2 9 (t := 23) (fun b => .pointer (some ⟨b, 0, none⟩)) #[.int .i64 0, .int .i64 0] hF hM (by kernel_rfl) (fun _ => by kernel_rfl) fun bb9 a w hF hM => ?_)
              refine wl (sStore (i := 9) (off := 0) (cs' := #[.int .i64 1, .int .i64 (-1)]) hF hM (by kernel_rfl) rfl rfl (by kernel_rfl) (by kernel_rfl) rfl (by kernel_rfl) fun w hM => ?_)
              refine wpList_nil ?_
              refine hK30 _ _ ?_
              refine wp_seq_k fun K31 hK31 => ?_
              refine rF (by kernel_rfl) (by kernel_rfl) (fun S a w => ∃ bb10 : Nat, Fr 206 [(0, some (.bool false)), (2, some (.pointer (some ⟨bb9, 0, none⟩))), (3, (cond (S.getD 6 false) (some (.pointer (some ⟨bb10, 0, none⟩))) none)), (4, (cond (S.getD 8 false) (some (.int .i64 120)) (some (.int .i64 120)))), (40, some (.agg #[.int .i64 0, .int .i64 0, .int .i64 1, .int .i64 0, .int .i64 1, .int .i64 (-1), .int .i64 0, .int .i64 2, .int .i64 1073741825, .int .i64 1, .int .i64 1, .int .i64 1073741825, .int .i64 (-9223372036854775808), .int .i64 1])), (41, some (.int .i64 2)), (44, (cond (S.getD 3 false) (some (.tuple #[.agg #[.int .i64 0, .int .i64 0], .int .i64 120])) none)), (45, (cond (S.getD 0 false) (some (.agg #[.int .i64 1, .int .i64 (-1)])) none)), (46, (cond (S.getD 1 false) (some (.agg #[.int .i64 1, .int .i64 1])) none)), (47, (cond (S.getD 2 false) (some (.tuple #[.agg #[.int .i64 0, .int .i64 0], .int .i64 120])) none)), (48, (cond (S.getD 4 false) (some (.agg #[.int .i64 0, .int .i64 0])) none)), (49, (cond (S.getD 5 false) (some (.int .i64 120)) none))] a ∧ Mem w0.heap.size w0 [(9, some (.row bb9 23 #[.int .i64 1, .int .i64 (-1)])), (10, (cond (S.getD 7 false) (some (.row bb10 23 #[.int .i64 0, .int .i64 0])) (cond (S.getD 6 false) (some (.row bb10 23 #[.int .i64 0, .int .i64 0])) none)))] w) ?_ ?_ ?_
              · exact ⟨0, (((((((((((((Fr.nil hF).co hF (i := 49) (by kernel_rfl)).co hF (i := 48) (by kernel_rfl)).co hF (i := 47) (by kernel_rfl)).co hF (i := 46) (by kernel_rfl)).co hF (i := 45) (by kernel_rfl)).co hF (i := 44) (by kernel_rfl)).co hF (i := 41) (by kernel_rfl)).co hF (i := 40) (by kernel_rfl)).co hF (i := 4) (by kernel_rfl)).co hF (i := 3) (by kernel_rfl)).co hF (i := 2) (by kernel_rfl)).co hF (i := 0) (by kernel_rfl)), hM.drew.sub ((Sub.nil.co (k := 10) (by kernel_rfl)).co (k := 9) (by kernel_rfl))⟩
              · refine stC ?_ (stC ?_ (stC ?_ (stC ?_ (stC ?_ (stC ?_ (stC ?_ (stC ?_ (stC ?_ (trivial)))))))))
                · intro s0 s1 s2 s3 s4 s5 s6 s7 s8 hc hi hp a w hS
                  obtain rfl : s0 = false := hi
                  obtain ⟨bb10, hF, hM⟩ := hS
                  refine eL 45 9 0 (v := .agg #[.int .i64 1, .int .i64 (-1)]) hF hM (by kernel_rfl) rfl rfl (by kernel_rfl) (by kernel_rfl) fun a w hF hM => ?_
                  exact ⟨bb10, ((hF.repl 7 (by kernel_rfl)).cast (by kernel_rfl)), (hM.cast (by kernel_rfl))⟩
                · intro s0 s1 s2 s3 s4 s5 s6 s7 s8 hc hi hp a w hS
                  obtain rfl : s1 = false := hi
                  obtain ⟨bb10, hF, hM⟩ := hS
                  refine eM 46 (v := .agg #[.int .i64 1, .int .i64 1]) hF hM (by kernel_rfl) (yld_call (f := 28) (args := #[.int .i64 1, .int .i64 1]) hF (by kernel_rfl) (fun _ => by kernel_rfl) (fun w hM => of_w 1 1 w)) fun a w hF hM => ?_
                  exact ⟨bb10, ((hF.repl 8 (by kernel_rfl)).cast (by kernel_rfl)), (hM.cast (by kernel_rfl))⟩
                · intro s0 s1 s2 s3 s4 s5 s6 s7 s8 hc hi hp a w hS
                  obtain rfl : s2 = false := hi
                  obtain rfl : s1 = true := hp 1 (by kernel_rfl)
                  obtain rfl : s0 = true := hp 0 (by kernel_rfl)
                  obtain ⟨bb10, hF, hM⟩ := hS
                  refine eM 47 (v := .tuple #[.agg #[.int .i64 0, .int .i64 0], .int .i64 120]) hF hM (by kernel_rfl) (yld_call (f := 16) (args := #[.agg #[.int .i64 1, .int .i64 (-1)], .agg #[.int .i64 1, .int .i64 1]]) hF (by kernel_rfl) (fun _ => by kernel_rfl) (fun w hM => raAdd_no 1 (-1) 1 1 w (hT.below (Nat.le_refl _) hM.bel) (fun q => absurd q.1 (by decide)))) fun a w hF hM => ?_
                  exact ⟨bb10, ((hF.repl 9 (by kernel_rfl)).cast (by kernel_rfl)), (hM.cast (by kernel_rfl))⟩
                · intro s0 s1 s2 s3 s4 s5 s6 s7 s8 hc hi hp a w hS
                  obtain rfl : s3 = false := hi
                  obtain rfl : s2 = true := hp 2 (by kernel_rfl)
                  obtain ⟨bb10, hF, hM⟩ := hS
                  refine eP 44 (v0 := .tuple #[.agg #[.int .i64 0, .int .i64 0], .int .i64 120]) (v := .tuple #[.agg #[.int .i64 0, .int .i64 0], .int .i64 120]) hF (by kernel_rfl) (fun _ => by kernel_rfl) rfl fun a hF => ?_
                  exact ⟨bb10, ((hF.repl 6 (by kernel_rfl)).cast (by kernel_rfl)), (hM.cast (by kernel_rfl))⟩
                · intro s0 s1 s2 s3 s4 s5 s6 s7 s8 hc hi hp a w hS
                  obtain rfl : s4 = false := hi
                  obtain rfl : s3 = true := hp 3 (by kernel_rfl)
                  obtain ⟨bb10, hF, hM⟩ := hS
                  refine eP 48 (v0 := .agg #[.int .i64 0, .int .i64 0]) (v := .agg #[.int .i64 0, .int .i64 0]) hF (by kernel_rfl) (fun _ => by kernel_rfl) rfl fun a hF => ?_
                  exact ⟨bb10, ((hF.repl 10 (by kernel_rfl)).cast (by kernel_rfl)), (hM.cast (by kernel_rfl))⟩
                · intro s0 s1 s2 s3 s4 s5 s6 s7 s8 hc hi hp a w hS
                  obtain rfl : s5 = false := hi
                  obtain rfl : s3 = true := hp 3 (by kernel_rfl)
                  obtain ⟨bb10, hF, hM⟩ := hS
                  refine eP 49 (v0 := .int .i64 120) (v := .int .i64 120) hF (by kernel_rfl) (fun _ => by kernel_rfl) rfl fun a hF => ?_
                  exact ⟨bb10, ((hF.repl 11 (by kernel_rfl)).cast (by kernel_rfl)), (hM.cast (by kernel_rfl))⟩
                · intro s0 s1 s2 s3 s4 s5 s6 s7 s8 hc hi hp a w hS
                  obtain rfl : s6 = false := hi
                  obtain rfl : s7 = false := hc.f 7 6 (by kernel_rfl) rfl
                  obtain ⟨bb10, hF, hM⟩ := hS
                  refine eN 3 10 (t := 23) (fun b => .pointer (some ⟨b, 0, none⟩)) #[.int .i64 0, .int .i64 0] hF hM (by kernel_rfl) (fun _ => by kernel_rfl) fun bb10 a w hF hM => ?_
                  exact ⟨bb10, ((hF.repl 2 (by kernel_rfl)).cast (by kernel_rfl)), ((hM.repl 1 (by kernel_rfl)).cast (by kernel_rfl))⟩
                · intro s0 s1 s2 s3 s4 s5 s6 s7 s8 hc hi hp a w hS
                  obtain rfl : s7 = false := hi
                  obtain rfl : s6 = true := hp 6 (by kernel_rfl)
                  obtain rfl : s4 = true := hp 4 (by kernel_rfl)
                  obtain ⟨bb10, hF, hM⟩ := hS
                  refine sStore (i := 10) (off := 0) (cs' := #[.int .i64 0, .int .i64 0]) hF hM (by kernel_rfl) rfl rfl (by kernel_rfl) (by kernel_rfl) rfl (by kernel_rfl) fun w hM => ?_
                  exact ⟨bb10, (hF.cast (by kernel_rfl)), ((hM.repl 1 (by kernel_rfl)).cast (by kernel_rfl))⟩
                · intro s0 s1 s2 s3 s4 s5 s6 s7 s8 hc hi hp a w hS
                  obtain rfl : s8 = false := hi
                  obtain rfl : s5 = true := hp 5 (by kernel_rfl)
                  obtain ⟨bb10, hF, hM⟩ := hS
                  refine eP 4 (v0 := .int .i64 120) (v := .int .i64 120) hF (by kernel_rfl) (fun _ => by kernel_rfl) rfl fun a hF => ?_
                  exact ⟨bb10, ((hF.repl 3 (by kernel_rfl)).cast (by kernel_rfl)), (hM.cast (by kernel_rfl))⟩
              · intro a w hS
                obtain ⟨bb10, hF, hM⟩ := hS
                replace hF : Fr 206 [(0, some (.bool false)), (2, some (.pointer (some ⟨bb9, 0, none⟩))), (3, some (.pointer (some ⟨bb10, 0, none⟩))), (4, some (.int .i64 120)), (40, some (.agg #[.int .i64 0, .int .i64 0, .int .i64 1, .int .i64 0, .int .i64 1, .int .i64 (-1), .int .i64 0, .int .i64 2, .int .i64 1073741825, .int .i64 1, .int .i64 1, .int .i64 1073741825, .int .i64 (-9223372036854775808), .int .i64 1])), (41, some (.int .i64 2)), (44, some (.tuple #[.agg #[.int .i64 0, .int .i64 0], .int .i64 120])), (45, some (.agg #[.int .i64 1, .int .i64 (-1)])), (46, some (.agg #[.int .i64 1, .int .i64 1])), (47, some (.tuple #[.agg #[.int .i64 0, .int .i64 0], .int .i64 120])), (48, some (.agg #[.int .i64 0, .int .i64 0])), (49, some (.int .i64 120))] a := hF.cast (by kernel_rfl)
                replace hM : Mem w0.heap.size w0 [(9, some (.row bb9 23 #[.int .i64 1, .int .i64 (-1)])), (10, some (.row bb10 23 #[.int .i64 0, .int .i64 0]))] w := hM.cast (by kernel_rfl)
                refine hK31 _ _ ?_
                refine wp_seq_k fun K32 hK32 => ?_
                refine rF (by kernel_rfl) (by kernel_rfl) (fun S a w => ∃ bb11 : Nat, Fr 206 [(0, some (.bool false)), (2, some (.pointer (some ⟨bb9, 0, none⟩))), (4, some (.int .i64 120)), (5, (cond (S.getD 6 false) (some (.pointer (some ⟨bb11, 0, none⟩))) none)), (6, (cond (S.getD 8 false) (some (.int .i64 120)) none)), (40, some (.agg #[.int .i64 0, .int .i64 0, .int .i64 1, .int .i64 0, .int .i64 1, .int .i64 (-1), .int .i64 0, .int .i64 2, .int .i64 1073741825, .int .i64 1, .int .i64 1, .int .i64 1073741825, .int .i64 (-9223372036854775808), .int .i64 1])), (41, some (.int .i64 2)), (50, (cond (S.getD 3 false) (some (.tuple #[.agg #[.int .i64 0, .int .i64 0], .int .i64 120])) none)), (51, (cond (S.getD 0 false) (some (.agg #[.int .i64 1, .int .i64 1])) none)), (52, (cond (S.getD 1 false) (some (.agg #[.int .i64 1, .int .i64 (-1)])) none)), (53, (cond (S.getD 2 false) (some (.tuple #[.agg #[.int .i64 0, .int .i64 0], .int .i64 120])) none)), (54, (cond (S.getD 4 false) (some (.agg #[.int .i64 0, .int .i64 0])) none)), (55, (cond (S.getD 5 false) (some (.int .i64 120)) none))] a ∧ Mem w0.heap.size w0 [(9, some (.row bb9 23 #[.int .i64 1, .int .i64 (-1)])), (11, (cond (S.getD 7 false) (some (.row bb11 23 #[.int .i64 0, .int .i64 0])) (cond (S.getD 6 false) (some (.row bb11 23 #[.int .i64 0, .int .i64 0])) none)))] w) ?_ ?_ ?_
                · exact ⟨0, ((((((((((((((Fr.nil hF).co hF (i := 55) (by kernel_rfl)).co hF (i := 54) (by kernel_rfl)).co hF (i := 53) (by kernel_rfl)).co hF (i := 52) (by kernel_rfl)).co hF (i := 51) (by kernel_rfl)).co hF (i := 50) (by kernel_rfl)).co hF (i := 41) (by kernel_rfl)).co hF (i := 40) (by kernel_rfl)).co hF (i := 6) (by kernel_rfl)).co hF (i := 5) (by kernel_rfl)).co hF (i := 4) (by kernel_rfl)).co hF (i := 2) (by kernel_rfl)).co hF (i := 0) (by kernel_rfl)), hM.drew.sub ((Sub.nil.co (k := 11) (by kernel_rfl)).co (k := 9) (by kernel_rfl))⟩
                · refine stC ?_ (stC ?_ (stC ?_ (stC ?_ (stC ?_ (stC ?_ (stC ?_ (stC ?_ (stC ?_ (trivial)))))))))
                  · intro s0 s1 s2 s3 s4 s5 s6 s7 s8 hc hi hp a w hS
                    obtain rfl : s0 = false := hi
                    obtain ⟨bb11, hF, hM⟩ := hS
                    refine eM 51 (v := .agg #[.int .i64 1, .int .i64 1]) hF hM (by kernel_rfl) (yld_call (f := 28) (args := #[.int .i64 1, .int .i64 1]) hF (by kernel_rfl) (fun _ => by kernel_rfl) (fun w hM => of_w 1 1 w)) fun a w hF hM => ?_
                    exact ⟨bb11, ((hF.repl 8 (by kernel_rfl)).cast (by kernel_rfl)), (hM.cast (by kernel_rfl))⟩
                  · intro s0 s1 s2 s3 s4 s5 s6 s7 s8 hc hi hp a w hS
                    obtain rfl : s1 = false := hi
                    obtain ⟨bb11, hF, hM⟩ := hS
                    refine eL 52 9 0 (v := .agg #[.int .i64 1, .int .i64 (-1)]) hF hM (by kernel_rfl) rfl rfl (by kernel_rfl) (by kernel_rfl) fun a w hF hM => ?_
                    exact ⟨bb11, ((hF.repl 9 (by kernel_rfl)).cast (by kernel_rfl)), (hM.cast (by kernel_rfl))⟩
                  · intro s0 s1 s2 s3 s4 s5 s6 s7 s8 hc hi hp a w hS
                    obtain rfl : s2 = false := hi
                    obtain rfl : s1 = true := hp 1 (by kernel_rfl)
                    obtain rfl : s0 = true := hp 0 (by kernel_rfl)
                    obtain ⟨bb11, hF, hM⟩ := hS
                    refine eM 53 (v := .tuple #[.agg #[.int .i64 0, .int .i64 0], .int .i64 120]) hF hM (by kernel_rfl) (yld_call (f := 22) (args := #[.agg #[.int .i64 1, .int .i64 1], .agg #[.int .i64 1, .int .i64 (-1)]]) hF (by kernel_rfl) (fun _ => by kernel_rfl) (fun w hM => raDiv_no 1 1 1 (-1) w (hT.below (Nat.le_refl _) hM.bel) (fun q => absurd q.2 (by decide)))) fun a w hF hM => ?_
                    exact ⟨bb11, ((hF.repl 10 (by kernel_rfl)).cast (by kernel_rfl)), (hM.cast (by kernel_rfl))⟩
                  · intro s0 s1 s2 s3 s4 s5 s6 s7 s8 hc hi hp a w hS
                    obtain rfl : s3 = false := hi
                    obtain rfl : s2 = true := hp 2 (by kernel_rfl)
                    obtain ⟨bb11, hF, hM⟩ := hS
                    refine eP 50 (v0 := .tuple #[.agg #[.int .i64 0, .int .i64 0], .int .i64 120]) (v := .tuple #[.agg #[.int .i64 0, .int .i64 0], .int .i64 120]) hF (by kernel_rfl) (fun _ => by kernel_rfl) rfl fun a hF => ?_
                    exact ⟨bb11, ((hF.repl 7 (by kernel_rfl)).cast (by kernel_rfl)), (hM.cast (by kernel_rfl))⟩
                  · intro s0 s1 s2 s3 s4 s5 s6 s7 s8 hc hi hp a w hS
                    obtain rfl : s4 = false := hi
                    obtain rfl : s3 = true := hp 3 (by kernel_rfl)
                    obtain ⟨bb11, hF, hM⟩ := hS
                    refine eP 54 (v0 := .agg #[.int .i64 0, .int .i64 0]) (v := .agg #[.int .i64 0, .int .i64 0]) hF (by kernel_rfl) (fun _ => by kernel_rfl) rfl fun a hF => ?_
                    exact ⟨bb11, ((hF.repl 11 (by kernel_rfl)).cast (by kernel_rfl)), (hM.cast (by kernel_rfl))⟩
                  · intro s0 s1 s2 s3 s4 s5 s6 s7 s8 hc hi hp a w hS
                    obtain rfl : s5 = false := hi
                    obtain rfl : s3 = true := hp 3 (by kernel_rfl)
                    obtain ⟨bb11, hF, hM⟩ := hS
                    refine eP 55 (v0 := .int .i64 120) (v := .int .i64 120) hF (by kernel_rfl) (fun _ => by kernel_rfl) rfl fun a hF => ?_
                    exact ⟨bb11, ((hF.repl 12 (by kernel_rfl)).cast (by kernel_rfl)), (hM.cast (by kernel_rfl))⟩
                  · intro s0 s1 s2 s3 s4 s5 s6 s7 s8 hc hi hp a w hS
                    obtain rfl : s6 = false := hi
                    obtain rfl : s7 = false := hc.f 7 6 (by kernel_rfl) rfl
                    obtain ⟨bb11, hF, hM⟩ := hS
                    refine eN 5 11 (t := 23) (fun b => .pointer (some ⟨b, 0, none⟩)) #[.int .i64 0, .int .i64 0] hF hM (by kernel_rfl) (fun _ => by kernel_rfl) fun bb11 a w hF hM => ?_
                    exact ⟨bb11, ((hF.repl 3 (by kernel_rfl)).cast (by kernel_rfl)), ((hM.repl 1 (by kernel_rfl)).cast (by kernel_rfl))⟩
                  · intro s0 s1 s2 s3 s4 s5 s6 s7 s8 hc hi hp a w hS
                    obtain rfl : s7 = false := hi
                    obtain rfl : s6 = true := hp 6 (by kernel_rfl)
                    obtain rfl : s4 = true := hp 4 (by kernel_rfl)
                    obtain ⟨bb11, hF, hM⟩ := hS
                    refine sStore (i := 11) (off := 0) (cs' := #[.int .i64 0, .int .i64 0]) hF hM (by kernel_rfl) rfl rfl (by kernel_rfl) (by kernel_rfl) rfl (by kernel_rfl) fun w hM => ?_
                    exact ⟨bb11, (hF.cast (by kernel_rfl)), ((hM.repl 1 (by kernel_rfl)).cast (by kernel_rfl))⟩
                  · intro s0 s1 s2 s3 s4 s5 s6 s7 s8 hc hi hp a w hS
                    obtain rfl : s8 = false := hi
                    obtain rfl : s5 = true := hp 5 (by kernel_rfl)
                    obtain ⟨bb11, hF, hM⟩ := hS
                    refine eP 6 (v0 := .int .i64 120) (v := .int .i64 120) hF (by kernel_rfl) (fun _ => by kernel_rfl) rfl fun a hF => ?_
                    exact ⟨bb11, ((hF.repl 4 (by kernel_rfl)).cast (by kernel_rfl)), (hM.cast (by kernel_rfl))⟩
                · intro a w hS
                  obtain ⟨bb11, hF, hM⟩ := hS
                  replace hF : Fr 206 [(0, some (.bool false)), (2, some (.pointer (some ⟨bb9, 0, none⟩))), (4, some (.int .i64 120)), (5, some (.pointer (some ⟨bb11, 0, none⟩))), (6, some (.int .i64 120)), (40, some (.agg #[.int .i64 0, .int .i64 0, .int .i64 1, .int .i64 0, .int .i64 1, .int .i64 (-1), .int .i64 0, .int .i64 2, .int .i64 1073741825, .int .i64 1, .int .i64 1, .int .i64 1073741825, .int .i64 (-9223372036854775808), .int .i64 1])), (41, some (.int .i64 2)), (50, some (.tuple #[.agg #[.int .i64 0, .int .i64 0], .int .i64 120])), (51, some (.agg #[.int .i64 1, .int .i64 1])), (52, some (.agg #[.int .i64 1, .int .i64 (-1)])), (53, some (.tuple #[.agg #[.int .i64 0, .int .i64 0], .int .i64 120])), (54, some (.agg #[.int .i64 0, .int .i64 0])), (55, some (.int .i64 120))] a := hF.cast (by kernel_rfl)
                  replace hM : Mem w0.heap.size w0 [(9, some (.row bb9 23 #[.int .i64 1, .int .i64 (-1)])), (11, some (.row bb11 23 #[.int .i64 0, .int .i64 0]))] w := hM.cast (by kernel_rfl)
                  refine hK32 _ _ ?_
                  refine wp_seq_k fun K33 hK33 => ?_
                  refine wp_region_lit ?_
                  refine wl (eL 57 9 0 (v := .agg #[.int .i64 1, .int .i64 (-1)]) hF hM (by kernel_rfl) rfl rfl (by kernel_rfl) (by kernel_rfl) fun a w hF hM => ?_)
                  refine wl (eL 58 9 0 (v := .agg #[.int .i64 1, .int .i64 (-1)]) hF hM (by kernel_rfl) rfl rfl (by kernel_rfl) (by kernel_rfl) fun a w hF hM => ?_)
                  refine wl (eM 59 (v := .tuple #[.int .i64 0, .int .i64 120]) hF hM (by kernel_rfl) (yld_call (f := 25) (args := #[.agg #[.int .i64 1, .int .i64 (-1)], .agg #[.int .i64 1, .int .i64 (-1)]]) hF (by kernel_rfl) (fun _ => by kernel_rfl) (fun w hM => raCmp_no 1 (-1) 1 (-1) w (hT.below (Nat.le_refl _) hM.bel) (fun q => absurd q.1 (by decide)))) fun a w hF hM => ?_)
                  refine sB 5 [(56, .tuple #[.int .i64 0, .int .i64 120]), (60, .int .i64 0), (61, .int .i64 120), (7, .int .i64 0), (8, .int .i64 120)] hF (by kernel_rfl) fun a hF => ?_
                  refine wpList_nil ?_
                  refine hK33 _ _ ?_
                  refine wp_seq_k fun K34 hK34 => ?_
                  refine wp_region_lit ?_
                  refine wl (eL 63 9 0 (v := .agg #[.int .i64 1, .int .i64 (-1)]) hF hM (by kernel_rfl) rfl rfl (by kernel_rfl) (by kernel_rfl) fun a w hF hM => ?_)
                  refine wl (eM 64 (v := .tuple #[.int .i64 0, .int .i64 120]) hF hM (by kernel_rfl) (yld_call (f := 26) (args := #[.agg #[.int .i64 1, .int .i64 (-1)]]) hF (by kernel_rfl) (fun _ => by kernel_rfl) (fun w hM => raFloor_no 1 (-1) w (hT.below (Nat.le_refl _) hM.bel) (by decide))) fun a w hF hM => ?_)
                  refine sB 5 [(62, .tuple #[.int .i64 0, .int .i64 120]), (65, .int .i64 0), (66, .int .i64 120), (9, .int .i64 0), (10, .int .i64 120)] hF (by kernel_rfl) fun a hF => ?_
                  refine wpList_nil ?_
                  refine hK34 _ _ ?_
                  refine wp_seq_k fun K35 hK35 => ?_
                  refine rF (by kernel_rfl) (by kernel_rfl) (fun S a w => ∃ bb12 : Nat, Fr 206 [(0, some (.bool false)), (2, some (.pointer (some ⟨bb9, 0, none⟩))), (4, some (.int .i64 120)), (6, some (.int .i64 120)), (8, some (.int .i64 120)), (10, some (.int .i64 120)), (11, (cond (S.getD 6 false) (some (.pointer (some ⟨bb12, 0, none⟩))) none)), (12, (cond (S.getD 8 false) (some (.int .i64 120)) none)), (40, some (.agg #[.int .i64 0, .int .i64 0, .int .i64 1, .int .i64 0, .int .i64 1, .int .i64 (-1), .int .i64 0, .int .i64 2, .int .i64 1073741825, .int .i64 1, .int .i64 1, .int .i64 1073741825, .int .i64 (-9223372036854775808), .int .i64 1])), (41, some (.int .i64 2)), (67, (cond (S.getD 3 false) (some (.tuple #[.agg #[.int .i64 0, .int .i64 0], .int .i64 120])) none)), (68, (cond (S.getD 0 false) (some (.agg #[.int .i64 1, .int .i64 1])) none)), (69, (cond (S.getD 1 false) (some (.agg #[.int .i64 1, .int .i64 (-1)])) none)), (70, (cond (S.getD 2 false) (some (.tuple #[.agg #[.int .i64 0, .int .i64 0], .int .i64 120])) none)), (71, (cond (S.getD 4 false) (some (.agg #[.int .i64 0, .int .i64 0])) none)), (72, (cond (S.getD 5 false) (some (.int .i64 120)) none))] a ∧ Mem w0.heap.size w0 [(9, some (.row bb9 23 #[.int .i64 1, .int .i64 (-1)])), (12, (cond (S.getD 7 false) (some (.row bb12 23 #[.int .i64 0, .int .i64 0])) (cond (S.getD 6 false) (some (.row bb12 23 #[.int .i64 0, .int .i64 0])) none)))] w) ?_ ?_ ?_
                  · exact ⟨0, (((((((((((((((((Fr.nil hF).co hF (i := 72) (by kernel_rfl)).co hF (i := 71) (by kernel_rfl)).co hF (i := 70) (by kernel_rfl)).co hF (i := 69) (by kernel_rfl)).co hF (i := 68) (by kernel_rfl)).co hF (i := 67) (by kernel_rfl)).co hF (i := 41) (by kernel_rfl)).co hF (i := 40) (by kernel_rfl)).co hF (i := 12) (by kernel_rfl)).co hF (i := 11) (by kernel_rfl)).co hF (i := 10) (by kernel_rfl)).co hF (i := 8) (by kernel_rfl)).co hF (i := 6) (by kernel_rfl)).co hF (i := 4) (by kernel_rfl)).co hF (i := 2) (by kernel_rfl)).co hF (i := 0) (by kernel_rfl)), hM.drew.sub ((Sub.nil.co (k := 12) (by kernel_rfl)).co (k := 9) (by kernel_rfl))⟩
                  · refine stC ?_ (stC ?_ (stC ?_ (stC ?_ (stC ?_ (stC ?_ (stC ?_ (stC ?_ (stC ?_ (trivial)))))))))
                    · intro s0 s1 s2 s3 s4 s5 s6 s7 s8 hc hi hp a w hS
                      obtain rfl : s0 = false := hi
                      obtain ⟨bb12, hF, hM⟩ := hS
                      refine eM 68 (v := .agg #[.int .i64 1, .int .i64 1]) hF hM (by kernel_rfl) (yld_call (f := 28) (args := #[.int .i64 1, .int .i64 1]) hF (by kernel_rfl) (fun _ => by kernel_rfl) (fun w hM => of_w 1 1 w)) fun a w hF hM => ?_
                      exact ⟨bb12, ((hF.repl 11 (by kernel_rfl)).cast (by kernel_rfl)), (hM.cast (by kernel_rfl))⟩
                    · intro s0 s1 s2 s3 s4 s5 s6 s7 s8 hc hi hp a w hS
                      obtain rfl : s1 = false := hi
                      obtain ⟨bb12, hF, hM⟩ := hS
                      refine eL 69 9 0 (v := .agg #[.int .i64 1, .int .i64 (-1)]) hF hM (by kernel_rfl) rfl rfl (by kernel_rfl) (by kernel_rfl) fun a w hF hM => ?_
                      exact ⟨bb12, ((hF.repl 12 (by kernel_rfl)).cast (by kernel_rfl)), (hM.cast (by kernel_rfl))⟩
                    · intro s0 s1 s2 s3 s4 s5 s6 s7 s8 hc hi hp a w hS
                      obtain rfl : s2 = false := hi
                      obtain rfl : s1 = true := hp 1 (by kernel_rfl)
                      obtain rfl : s0 = true := hp 0 (by kernel_rfl)
                      obtain ⟨bb12, hF, hM⟩ := hS
                      refine eM 70 (v := .tuple #[.agg #[.int .i64 0, .int .i64 0], .int .i64 120]) hF hM (by kernel_rfl) (yld_call (f := 29) (args := #[.agg #[.int .i64 1, .int .i64 1], .agg #[.int .i64 1, .int .i64 (-1)]]) hF (by kernel_rfl) (fun _ => by kernel_rfl) (fun w hM => raMax_no 1 1 1 (-1) w (hT.below (Nat.le_refl _) hM.bel) (fun q => absurd q.2 (by decide)))) fun a w hF hM => ?_
                      exact ⟨bb12, ((hF.repl 13 (by kernel_rfl)).cast (by kernel_rfl)), (hM.cast (by kernel_rfl))⟩
                    · intro s0 s1 s2 s3 s4 s5 s6 s7 s8 hc hi hp a w hS
                      obtain rfl : s3 = false := hi
                      obtain rfl : s2 = true := hp 2 (by kernel_rfl)
                      obtain ⟨bb12, hF, hM⟩ := hS
                      refine eP 67 (v0 := .tuple #[.agg #[.int .i64 0, .int .i64 0], .int .i64 120]) (v := .tuple #[.agg #[.int .i64 0, .int .i64 0], .int .i64 120]) hF (by kernel_rfl) (fun _ => by kernel_rfl) rfl fun a hF => ?_
                      exact ⟨bb12, ((hF.repl 10 (by kernel_rfl)).cast (by kernel_rfl)), (hM.cast (by kernel_rfl))⟩
                    · intro s0 s1 s2 s3 s4 s5 s6 s7 s8 hc hi hp a w hS
                      obtain rfl : s4 = false := hi
                      obtain rfl : s3 = true := hp 3 (by kernel_rfl)
                      obtain ⟨bb12, hF, hM⟩ := hS
                      refine eP 71 (v0 := .agg #[.int .i64 0, .int .i64 0]) (v := .agg #[.int .i64 0, .int .i64 0]) hF (by kernel_rfl) (fun _ => by kernel_rfl) rfl fun a hF => ?_
                      exact ⟨bb12, ((hF.repl 14 (by kernel_rfl)).cast (by kernel_rfl)), (hM.cast (by kernel_rfl))⟩
                    · intro s0 s1 s2 s3 s4 s5 s6 s7 s8 hc hi hp a w hS
                      obtain rfl : s5 = false := hi
                      obtain rfl : s3 = true := hp 3 (by kernel_rfl)
                      obtain ⟨bb12, hF, hM⟩ := hS
                      refine eP 72 (v0 := .int .i64 120) (v := .int .i64 120) hF (by kernel_rfl) (fun _ => by kernel_rfl) rfl fun a hF => ?_
                      exact ⟨bb12, ((hF.repl 15 (by kernel_rfl)).cast (by kernel_rfl)), (hM.cast (by kernel_rfl))⟩
                    · intro s0 s1 s2 s3 s4 s5 s6 s7 s8 hc hi hp a w hS
                      obtain rfl : s6 = false := hi
                      obtain rfl : s7 = false := hc.f 7 6 (by kernel_rfl) rfl
                      obtain ⟨bb12, hF, hM⟩ := hS
                      refine eN 11 12 (t := 23) (fun b => .pointer (some ⟨b, 0, none⟩)) #[.int .i64 0, .int .i64 0] hF hM (by kernel_rfl) (fun _ => by kernel_rfl) fun bb12 a w hF hM => ?_
                      exact ⟨bb12, ((hF.repl 6 (by kernel_rfl)).cast (by kernel_rfl)), ((hM.repl 1 (by kernel_rfl)).cast (by kernel_rfl))⟩
                    · intro s0 s1 s2 s3 s4 s5 s6 s7 s8 hc hi hp a w hS
                      obtain rfl : s7 = false := hi
                      obtain rfl : s6 = true := hp 6 (by kernel_rfl)
                      obtain rfl : s4 = true := hp 4 (by kernel_rfl)
                      obtain ⟨bb12, hF, hM⟩ := hS
                      refine sStore (i := 12) (off := 0) (cs' := #[.int .i64 0, .int .i64 0]) hF hM (by kernel_rfl) rfl rfl (by kernel_rfl) (by kernel_rfl) rfl (by kernel_rfl) fun w hM => ?_
                      exact ⟨bb12, (hF.cast (by kernel_rfl)), ((hM.repl 1 (by kernel_rfl)).cast (by kernel_rfl))⟩
                    · intro s0 s1 s2 s3 s4 s5 s6 s7 s8 hc hi hp a w hS
                      obtain rfl : s8 = false := hi
                      obtain rfl : s5 = true := hp 5 (by kernel_rfl)
                      obtain ⟨bb12, hF, hM⟩ := hS
                      refine eP 12 (v0 := .int .i64 120) (v := .int .i64 120) hF (by kernel_rfl) (fun _ => by kernel_rfl) rfl fun a hF => ?_
                      exact ⟨bb12, ((hF.repl 7 (by kernel_rfl)).cast (by kernel_rfl)), (hM.cast (by kernel_rfl))⟩
                  · intro a w hS
                    obtain ⟨bb12, hF, hM⟩ := hS
                    replace hF : Fr 206 [(0, some (.bool false)), (2, some (.pointer (some ⟨bb9, 0, none⟩))), (4, some (.int .i64 120)), (6, some (.int .i64 120)), (8, some (.int .i64 120)), (10, some (.int .i64 120)), (11, some (.pointer (some ⟨bb12, 0, none⟩))), (12, some (.int .i64 120)), (40, some (.agg #[.int .i64 0, .int .i64 0, .int .i64 1, .int .i64 0, .int .i64 1, .int .i64 (-1), .int .i64 0, .int .i64 2, .int .i64 1073741825, .int .i64 1, .int .i64 1, .int .i64 1073741825, .int .i64 (-9223372036854775808), .int .i64 1])), (41, some (.int .i64 2)), (67, some (.tuple #[.agg #[.int .i64 0, .int .i64 0], .int .i64 120])), (68, some (.agg #[.int .i64 1, .int .i64 1])), (69, some (.agg #[.int .i64 1, .int .i64 (-1)])), (70, some (.tuple #[.agg #[.int .i64 0, .int .i64 0], .int .i64 120])), (71, some (.agg #[.int .i64 0, .int .i64 0])), (72, some (.int .i64 120))] a := hF.cast (by kernel_rfl)
                    replace hM : Mem w0.heap.size w0 [(9, some (.row bb9 23 #[.int .i64 1, .int .i64 (-1)])), (12, some (.row bb12 23 #[.int .i64 0, .int .i64 0]))] w := hM.cast (by kernel_rfl)
                    refine hK35 _ _ ?_
                    refine wp_seq_k fun K36 hK36 => ?_
                    refine wp_region_lit ?_
                    refine wl (eL 73 9 0 (v := .agg #[.int .i64 1, .int .i64 (-1)]) hF hM (by kernel_rfl) rfl rfl (by kernel_rfl) (by kernel_rfl) fun a w hF hM => ?_)
                    refine wl (eM 74 (v := .int .i64 120) hF hM (by kernel_rfl) (Yld.to (yld_call (f := 12) (args := #[.agg #[.int .i64 1, .int .i64 (-1)]]) hF (by kernel_rfl) (fun _ => by kernel_rfl) (fun w hM => raCheck_w 1 (-1) w (hT.below (Nat.le_refl _) hM.bel))) (by kernel_rfl)) fun a w hF hM => ?_)
                    refine wl (eP 75 (v0 := .bool (!decide (120 = 120))) (v := .bool false) hF (by kernel_rfl) (fun _ => by kernel_rfl) (nT (by omega)) fun a hF => ?_)
                    refine sB 2 [(76, .bool false), (77, .int .i64 120)] hF (by kernel_rfl) fun a hF => ?_
                    refine wl (eP 78 (v0 := .bool (!decide (120 = 120))) (v := .bool false) hF (by kernel_rfl) (fun _ => by kernel_rfl) (nT (by omega)) fun a hF => ?_)
                    refine sB 3 [(79, .bool false), (80, .bool false), (81, .int .i64 120)] hF (by kernel_rfl) fun a hF => ?_
                    refine wl (eP 82 (v0 := .bool (!decide (120 = 120))) (v := .bool false) hF (by kernel_rfl) (fun _ => by kernel_rfl) (nT (by omega)) fun a hF => ?_)
                    refine sB 3 [(83, .bool false), (84, .bool false), (85, .int .i64 120)] hF (by kernel_rfl) fun a hF => ?_
                    refine wl (eP 86 (v0 := .bool (!decide (120 = 120))) (v := .bool false) hF (by kernel_rfl) (fun _ => by kernel_rfl) (nT (by omega)) fun a hF => ?_)
                    refine sB 3 [(87, .bool false), (88, .bool false), (89, .int .i64 120)] hF (by kernel_rfl) fun a hF => ?_
                    refine wl (eP 90 (v0 := .bool (!decide (120 = 120))) (v := .bool false) hF (by kernel_rfl) (fun _ => by kernel_rfl) (nT (by omega)) fun a hF => ?_)
                    refine sB 3 [(91, .bool false), (92, .bool false), (93, .int .i64 120)] hF (by kernel_rfl) fun a hF => ?_
                    refine wl (eP 94 (v0 := .bool (!decide (120 = 120))) (v := .bool false) hF (by kernel_rfl) (fun _ => by kernel_rfl) (nT (by omega)) fun a hF => ?_)
                    refine sB 1 [(95, .bool false)] hF (by kernel_rfl) fun a hF => ?_
                    refine wpList_nil ?_
                    refine hK36 _ _ ?_
                    refine cF hF (by kernel_rfl) (by kernel_rfl) ?_
                    refine wp_skip ?_
                    refine hK29 _ _ ?_
                    refine wp_region_lit ?_
                    refine wl (eP 96 (v0 := .int .i64 (IntKind.i64.wrap (2 + 1))) (v := .int .i64 3) hF (by kernel_rfl) (fun _ => by kernel_rfl) (vi (by decide)) fun a hF => ?_)
                    refine sB 1 [(41, .int .i64 3)] hF (by kernel_rfl) fun a hF => ?_
                    refine wpList_nil ?_
                    refine hK26 _ _ ?_
                    refine rounds_k fun K37 hK37 => ?_
                    refine wp_seq_k fun K38 hK38 => ?_
                    refine wp_region_lit ?_
                    refine wl (eP 42 (v0 := .bool (decide (3 < 7))) (v := .bool true) hF (by kernel_rfl) (fun _ => by kernel_rfl) (bT (by omega)) fun a hF => ?_)
                    refine wpList_nil ?_
                    refine hK38 _ _ ?_
                    refine wp_seq_k fun K39 hK39 => ?_
                    refine cT hF (by kernel_rfl) (by kernel_rfl) ?_
                    refine wp_skip ?_
                    refine hK39 _ _ ?_
                    refine wp_seq_k fun K40 hK40 => ?_
                    refine wp_block ?_
                    refine wp_seq_k fun K41 hK41 => ?_
                    refine wp_region_lit ?_
                    refine sB 1 [(43, .agg #[.int .i64 0, .int .i64 2])] hF (by kernel_rfl) fun a hF => ?_
                    refine wl (eN 2 13 (t := 23) (fun b => .pointer (some ⟨b, 0, none⟩)) #[.int .i64 0, .int .i64 0] hF hM (by kernel_rfl) (fun _ => by kernel_rfl) fun bb13 a w hF hM => ?_)
                    refine wl (sStore (i := 13) (off := 0) (cs' := #[.int .i64 0, .int .i64 2]) hF hM (by kernel_rfl) rfl rfl (by kernel_rfl) (by kernel_rfl) rfl (by kernel_rfl) fun w hM => ?_)
                    refine wpList_nil ?_
                    refine hK41 _ _ ?_
                    refine wp_seq_k fun K42 hK42 => ?_
                    refine rF (by kernel_rfl) (by kernel_rfl) (fun S a w => ∃ bb14 : Nat, Fr 206 [(0, some (.bool false)), (2, some (.pointer (some ⟨bb13, 0, none⟩))), (3, (cond (S.getD 6 false) (some (.pointer (some ⟨bb14, 0, none⟩))) none)), (4, (cond (S.getD 8 false) (some (.int .i64 120)) (some (.int .i64 120)))), (40, some (.agg #[.int .i64 0, .int .i64 0, .int .i64 1, .int .i64 0, .int .i64 1, .int .i64 (-1), .int .i64 0, .int .i64 2, .int .i64 1073741825, .int .i64 1, .int .i64 1, .int .i64 1073741825, .int .i64 (-9223372036854775808), .int .i64 1])), (41, some (.int .i64 3)), (44, (cond (S.getD 3 false) (some (.tuple #[.agg #[.int .i64 0, .int .i64 0], .int .i64 120])) none)), (45, (cond (S.getD 0 false) (some (.agg #[.int .i64 0, .int .i64 2])) none)), (46, (cond (S.getD 1 false) (some (.agg #[.int .i64 1, .int .i64 1])) none)), (47, (cond (S.getD 2 false) (some (.tuple #[.agg #[.int .i64 0, .int .i64 0], .int .i64 120])) none)), (48, (cond (S.getD 4 false) (some (.agg #[.int .i64 0, .int .i64 0])) none)), (49, (cond (S.getD 5 false) (some (.int .i64 120)) none))] a ∧ Mem w0.heap.size w0 [(13, some (.row bb13 23 #[.int .i64 0, .int .i64 2])), (14, (cond (S.getD 7 false) (some (.row bb14 23 #[.int .i64 0, .int .i64 0])) (cond (S.getD 6 false) (some (.row bb14 23 #[.int .i64 0, .int .i64 0])) none)))] w) ?_ ?_ ?_
                    · exact ⟨0, (((((((((((((Fr.nil hF).co hF (i := 49) (by kernel_rfl)).co hF (i := 48) (by kernel_rfl)).co hF (i := 47) (by kernel_rfl)).co hF (i := 46) (by kernel_rfl)).co hF (i := 45) (by kernel_rfl)).co hF (i := 44) (by kernel_rfl)).co hF (i := 41) (by kernel_rfl)).co hF (i := 40) (by kernel_rfl)).co hF (i := 4) (by kernel_rfl)).co hF (i := 3) (by kernel_rfl)).co hF (i := 2) (by kernel_rfl)).co hF (i := 0) (by kernel_rfl)), hM.drew.sub ((Sub.nil.co (k := 14) (by kernel_rfl)).co (k := 13) (by kernel_rfl))⟩
                    · refine stC ?_ (stC ?_ (stC ?_ (stC ?_ (stC ?_ (stC ?_ (stC ?_ (stC ?_ (stC ?_ (trivial)))))))))
                      · intro s0 s1 s2 s3 s4 s5 s6 s7 s8 hc hi hp a w hS
                        obtain rfl : s0 = false := hi
                        obtain ⟨bb14, hF, hM⟩ := hS
                        refine eL 45 13 0 (v := .agg #[.int .i64 0, .int .i64 2]) hF hM (by kernel_rfl) rfl rfl (by kernel_rfl) (by kernel_rfl) fun a w hF hM => ?_
                        exact ⟨bb14, ((hF.repl 7 (by kernel_rfl)).cast (by kernel_rfl)), (hM.cast (by kernel_rfl))⟩
                      · intro s0 s1 s2 s3 s4 s5 s6 s7 s8 hc hi hp a w hS
                        obtain rfl : s1 = false := hi
                        obtain ⟨bb14, hF, hM⟩ := hS
                        refine eM 46 (v := .agg #[.int .i64 1, .int .i64 1]) hF hM (by kernel_rfl) (yld_call (f := 28) (args := #[.int .i64 1, .int .i64 1]) hF (by kernel_rfl) (fun _ => by kernel_rfl) (fun w hM => of_w 1 1 w)) fun a w hF hM => ?_
                        exact ⟨bb14, ((hF.repl 8 (by kernel_rfl)).cast (by kernel_rfl)), (hM.cast (by kernel_rfl))⟩
                      · intro s0 s1 s2 s3 s4 s5 s6 s7 s8 hc hi hp a w hS
                        obtain rfl : s2 = false := hi
                        obtain rfl : s1 = true := hp 1 (by kernel_rfl)
                        obtain rfl : s0 = true := hp 0 (by kernel_rfl)
                        obtain ⟨bb14, hF, hM⟩ := hS
                        refine eM 47 (v := .tuple #[.agg #[.int .i64 0, .int .i64 0], .int .i64 120]) hF hM (by kernel_rfl) (yld_call (f := 16) (args := #[.agg #[.int .i64 0, .int .i64 2], .agg #[.int .i64 1, .int .i64 1]]) hF (by kernel_rfl) (fun _ => by kernel_rfl) (fun w hM => raAdd_no 0 2 1 1 w (hT.below (Nat.le_refl _) hM.bel) (fun q => absurd q.1 (by decide)))) fun a w hF hM => ?_
                        exact ⟨bb14, ((hF.repl 9 (by kernel_rfl)).cast (by kernel_rfl)), (hM.cast (by kernel_rfl))⟩
                      · intro s0 s1 s2 s3 s4 s5 s6 s7 s8 hc hi hp a w hS
                        obtain rfl : s3 = false := hi
                        obtain rfl : s2 = true := hp 2 (by kernel_rfl)
                        obtain ⟨bb14, hF, hM⟩ := hS
                        refine eP 44 (v0 := .tuple #[.agg #[.int .i64 0, .int .i64 0], .int .i64 120]) (v := .tuple #[.agg #[.int .i64 0, .int .i64 0], .int .i64 120]) hF (by kernel_rfl) (fun _ => by kernel_rfl) rfl fun a hF => ?_
                        exact ⟨bb14, ((hF.repl 6 (by kernel_rfl)).cast (by kernel_rfl)), (hM.cast (by kernel_rfl))⟩
                      · intro s0 s1 s2 s3 s4 s5 s6 s7 s8 hc hi hp a w hS
                        obtain rfl : s4 = false := hi
                        obtain rfl : s3 = true := hp 3 (by kernel_rfl)
                        obtain ⟨bb14, hF, hM⟩ := hS
                        refine eP 48 (v0 := .agg #[.int .i64 0, .int .i64 0]) (v := .agg #[.int .i64 0, .int .i64 0]) hF (by kernel_rfl) (fun _ => by kernel_rfl) rfl fun a hF => ?_
                        exact ⟨bb14, ((hF.repl 10 (by kernel_rfl)).cast (by kernel_rfl)), (hM.cast (by kernel_rfl))⟩
                      · intro s0 s1 s2 s3 s4 s5 s6 s7 s8 hc hi hp a w hS
                        obtain rfl : s5 = false := hi
                        obtain rfl : s3 = true := hp 3 (by kernel_rfl)
                        obtain ⟨bb14, hF, hM⟩ := hS
                        refine eP 49 (v0 := .int .i64 120) (v := .int .i64 120) hF (by kernel_rfl) (fun _ => by kernel_rfl) rfl fun a hF => ?_
                        exact ⟨bb14, ((hF.repl 11 (by kernel_rfl)).cast (by kernel_rfl)), (hM.cast (by kernel_rfl))⟩
                      · intro s0 s1 s2 s3 s4 s5 s6 s7 s8 hc hi hp a w hS
                        obtain rfl : s6 = false := hi
                        obtain rfl : s7 = false := hc.f 7 6 (by kernel_rfl) rfl
                        obtain ⟨bb14, hF, hM⟩ := hS
                        refine eN 3 14 (t := 23) (fun b => .pointer (some ⟨b, 0, none⟩)) #[.int .i64 0, .int .i64 0] hF hM (by kernel_rfl) (fun _ => by kernel_rfl) fun bb14 a w hF hM => ?_
                        exact ⟨bb14, ((hF.repl 2 (by kernel_rfl)).cast (by kernel_rfl)), ((hM.repl 1 (by kernel_rfl)).cast (by kernel_rfl))⟩
                      · intro s0 s1 s2 s3 s4 s5 s6 s7 s8 hc hi hp a w hS
                        obtain rfl : s7 = false := hi
                        obtain rfl : s6 = true := hp 6 (by kernel_rfl)
                        obtain rfl : s4 = true := hp 4 (by kernel_rfl)
                        obtain ⟨bb14, hF, hM⟩ := hS
                        refine sStore (i := 14) (off := 0) (cs' := #[.int .i64 0, .int .i64 0]) hF hM (by kernel_rfl) rfl rfl (by kernel_rfl) (by kernel_rfl) rfl (by kernel_rfl) fun w hM => ?_
                        exact ⟨bb14, (hF.cast (by kernel_rfl)), ((hM.repl 1 (by kernel_rfl)).cast (by kernel_rfl))⟩
                      · intro s0 s1 s2 s3 s4 s5 s6 s7 s8 hc hi hp a w hS
                        obtain rfl : s8 = false := hi
                        obtain rfl : s5 = true := hp 5 (by kernel_rfl)
                        obtain ⟨bb14, hF, hM⟩ := hS
                        refine eP 4 (v0 := .int .i64 120) (v := .int .i64 120) hF (by kernel_rfl) (fun _ => by kernel_rfl) rfl fun a hF => ?_
                        exact ⟨bb14, ((hF.repl 3 (by kernel_rfl)).cast (by kernel_rfl)), (hM.cast (by kernel_rfl))⟩
                    · intro a w hS
                      obtain ⟨bb14, hF, hM⟩ := hS
                      replace hF : Fr 206 [(0, some (.bool false)), (2, some (.pointer (some ⟨bb13, 0, none⟩))), (3, some (.pointer (some ⟨bb14, 0, none⟩))), (4, some (.int .i64 120)), (40, some (.agg #[.int .i64 0, .int .i64 0, .int .i64 1, .int .i64 0, .int .i64 1, .int .i64 (-1), .int .i64 0, .int .i64 2, .int .i64 1073741825, .int .i64 1, .int .i64 1, .int .i64 1073741825, .int .i64 (-9223372036854775808), .int .i64 1])), (41, some (.int .i64 3)), (44, some (.tuple #[.agg #[.int .i64 0, .int .i64 0], .int .i64 120])), (45, some (.agg #[.int .i64 0, .int .i64 2])), (46, some (.agg #[.int .i64 1, .int .i64 1])), (47, some (.tuple #[.agg #[.int .i64 0, .int .i64 0], .int .i64 120])), (48, some (.agg #[.int .i64 0, .int .i64 0])), (49, some (.int .i64 120))] a := hF.cast (by kernel_rfl)
                      replace hM : Mem w0.heap.size w0 [(13, some (.row bb13 23 #[.int .i64 0, .int .i64 2])), (14, some (.row bb14 23 #[.int .i64 0, .int .i64 0]))] w := hM.cast (by kernel_rfl)
                      refine hK42 _ _ ?_
                      refine wp_seq_k fun K43 hK43 => ?_
                      refine rF (by kernel_rfl) (by kernel_rfl) (fun S a w => ∃ bb15 : Nat, Fr 206 [(0, some (.bool false)), (2, some (.pointer (some ⟨bb13, 0, none⟩))), (4, some (.int .i64 120)), (5, (cond (S.getD 6 false) (some (.pointer (some ⟨bb15, 0, none⟩))) none)), (6, (cond (S.getD 8 false) (some (.int .i64 120)) none)), (40, some (.agg #[.int .i64 0, .int .i64 0, .int .i64 1, .int .i64 0, .int .i64 1, .int .i64 (-1), .int .i64 0, .int .i64 2, .int .i64 1073741825, .int .i64 1, .int .i64 1, .int .i64 1073741825, .int .i64 (-9223372036854775808), .int .i64 1])), (41, some (.int .i64 3)), (50, (cond (S.getD 3 false) (some (.tuple #[.agg #[.int .i64 0, .int .i64 0], .int .i64 120])) none)), (51, (cond (S.getD 0 false) (some (.agg #[.int .i64 1, .int .i64 1])) none)), (52, (cond (S.getD 1 false) (some (.agg #[.int .i64 0, .int .i64 2])) none)), (53, (cond (S.getD 2 false) (some (.tuple #[.agg #[.int .i64 0, .int .i64 0], .int .i64 120])) none)), (54, (cond (S.getD 4 false) (some (.agg #[.int .i64 0, .int .i64 0])) none)), (55, (cond (S.getD 5 false) (some (.int .i64 120)) none))] a ∧ Mem w0.heap.size w0 [(13, some (.row bb13 23 #[.int .i64 0, .int .i64 2])), (15, (cond (S.getD 7 false) (some (.row bb15 23 #[.int .i64 0, .int .i64 0])) (cond (S.getD 6 false) (some (.row bb15 23 #[.int .i64 0, .int .i64 0])) none)))] w) ?_ ?_ ?_
                      · exact ⟨0, ((((((((((((((Fr.nil hF).co hF (i := 55) (by kernel_rfl)).co hF (i := 54) (by kernel_rfl)).co hF (i := 53) (by kernel_rfl)).co hF (i := 52) (by kernel_rfl)).co hF (i := 51) (by kernel_rfl)).co hF (i := 50) (by kernel_rfl)).co hF (i := 41) (by kernel_rfl)).co hF (i := 40) (by kernel_rfl)).co hF (i := 6) (by kernel_rfl)).co hF (i := 5) (by kernel_rfl)).co hF (i := 4) (by kernel_rfl)).co hF (i := 2) (by kernel_rfl)).co hF (i := 0) (by kernel_rfl)), hM.drew.sub ((Sub.nil.co (k := 15) (by kernel_rfl)).co (k := 13) (by kernel_rfl))⟩
                      · refine stC ?_ (stC ?_ (stC ?_ (stC ?_ (stC ?_ (stC ?_ (stC ?_ (stC ?_ (stC ?_ (trivial)))))))))
                        · intro s0 s1 s2 s3 s4 s5 s6 s7 s8 hc hi hp a w hS
                          obtain rfl : s0 = false := hi
                          obtain ⟨bb15, hF, hM⟩ := hS
                          refine eM 51 (v := .agg #[.int .i64 1, .int .i64 1]) hF hM (by kernel_rfl) (yld_call (f := 28) (args := #[.int .i64 1, .int .i64 1]) hF (by kernel_rfl) (fun _ => by kernel_rfl) (fun w hM => of_w 1 1 w)) fun a w hF hM => ?_
                          exact ⟨bb15, ((hF.repl 8 (by kernel_rfl)).cast (by kernel_rfl)), (hM.cast (by kernel_rfl))⟩
                        · intro s0 s1 s2 s3 s4 s5 s6 s7 s8 hc hi hp a w hS
                          obtain rfl : s1 = false := hi
                          obtain ⟨bb15, hF, hM⟩ := hS
                          refine eL 52 13 0 (v := .agg #[.int .i64 0, .int .i64 2]) hF hM (by kernel_rfl) rfl rfl (by kernel_rfl) (by kernel_rfl) fun a w hF hM => ?_
                          exact ⟨bb15, ((hF.repl 9 (by kernel_rfl)).cast (by kernel_rfl)), (hM.cast (by kernel_rfl))⟩
                        · intro s0 s1 s2 s3 s4 s5 s6 s7 s8 hc hi hp a w hS
                          obtain rfl : s2 = false := hi
                          obtain rfl : s1 = true := hp 1 (by kernel_rfl)
                          obtain rfl : s0 = true := hp 0 (by kernel_rfl)
                          obtain ⟨bb15, hF, hM⟩ := hS
                          refine eM 53 (v := .tuple #[.agg #[.int .i64 0, .int .i64 0], .int .i64 120]) hF hM (by kernel_rfl) (yld_call (f := 22) (args := #[.agg #[.int .i64 1, .int .i64 1], .agg #[.int .i64 0, .int .i64 2]]) hF (by kernel_rfl) (fun _ => by kernel_rfl) (fun w hM => raDiv_no 1 1 0 2 w (hT.below (Nat.le_refl _) hM.bel) (fun q => absurd q.2 (by decide)))) fun a w hF hM => ?_
                          exact ⟨bb15, ((hF.repl 10 (by kernel_rfl)).cast (by kernel_rfl)), (hM.cast (by kernel_rfl))⟩
                        · intro s0 s1 s2 s3 s4 s5 s6 s7 s8 hc hi hp a w hS
                          obtain rfl : s3 = false := hi
                          obtain rfl : s2 = true := hp 2 (by kernel_rfl)
                          obtain ⟨bb15, hF, hM⟩ := hS
                          refine eP 50 (v0 := .tuple #[.agg #[.int .i64 0, .int .i64 0], .int .i64 120]) (v := .tuple #[.agg #[.int .i64 0, .int .i64 0], .int .i64 120]) hF (by kernel_rfl) (fun _ => by kernel_rfl) rfl fun a hF => ?_
                          exact ⟨bb15, ((hF.repl 7 (by kernel_rfl)).cast (by kernel_rfl)), (hM.cast (by kernel_rfl))⟩
                        · intro s0 s1 s2 s3 s4 s5 s6 s7 s8 hc hi hp a w hS
                          obtain rfl : s4 = false := hi
                          obtain rfl : s3 = true := hp 3 (by kernel_rfl)
                          obtain ⟨bb15, hF, hM⟩ := hS
                          refine eP 54 (v0 := .agg #[.int .i64 0, .int .i64 0]) (v := .agg #[.int .i64 0, .int .i64 0]) hF (by kernel_rfl) (fun _ => by kernel_rfl) rfl fun a hF => ?_
                          exact ⟨bb15, ((hF.repl 11 (by kernel_rfl)).cast (by kernel_rfl)), (hM.cast (by kernel_rfl))⟩
                        · intro s0 s1 s2 s3 s4 s5 s6 s7 s8 hc hi hp a w hS
                          obtain rfl : s5 = false := hi
                          obtain rfl : s3 = true := hp 3 (by kernel_rfl)
                          obtain ⟨bb15, hF, hM⟩ := hS
                          refine eP 55 (v0 := .int .i64 120) (v := .int .i64 120) hF (by kernel_rfl) (fun _ => by kernel_rfl) rfl fun a hF => ?_
                          exact ⟨bb15, ((hF.repl 12 (by kernel_rfl)).cast (by kernel_rfl)), (hM.cast (by kernel_rfl))⟩
                        · intro s0 s1 s2 s3 s4 s5 s6 s7 s8 hc hi hp a w hS
                          obtain rfl : s6 = false := hi
                          obtain rfl : s7 = false := hc.f 7 6 (by kernel_rfl) rfl
                          obtain ⟨bb15, hF, hM⟩ := hS
                          refine eN 5 15 (t := 23) (fun b => .pointer (some ⟨b, 0, none⟩)) #[.int .i64 0, .int .i64 0] hF hM (by kernel_rfl) (fun _ => by kernel_rfl) fun bb15 a w hF hM => ?_
                          exact ⟨bb15, ((hF.repl 3 (by kernel_rfl)).cast (by kernel_rfl)), ((hM.repl 1 (by kernel_rfl)).cast (by kernel_rfl))⟩
                        · intro s0 s1 s2 s3 s4 s5 s6 s7 s8 hc hi hp a w hS
                          obtain rfl : s7 = false := hi
                          obtain rfl : s6 = true := hp 6 (by kernel_rfl)
                          obtain rfl : s4 = true := hp 4 (by kernel_rfl)
                          obtain ⟨bb15, hF, hM⟩ := hS
                          refine sStore (i := 15) (off := 0) (cs' := #[.int .i64 0, .int .i64 0]) hF hM (by kernel_rfl) rfl rfl (by kernel_rfl) (by kernel_rfl) rfl (by kernel_rfl) fun w hM => ?_
                          exact ⟨bb15, (hF.cast (by kernel_rfl)), ((hM.repl 1 (by kernel_rfl)).cast (by kernel_rfl))⟩
                        · intro s0 s1 s2 s3 s4 s5 s6 s7 s8 hc hi hp a w hS
                          obtain rfl : s8 = false := hi
                          obtain rfl : s5 = true := hp 5 (by kernel_rfl)
                          obtain ⟨bb15, hF, hM⟩ := hS
                          refine eP 6 (v0 := .int .i64 120) (v := .int .i64 120) hF (by kernel_rfl) (fun _ => by kernel_rfl) rfl fun a hF => ?_
                          exact ⟨bb15, ((hF.repl 4 (by kernel_rfl)).cast (by kernel_rfl)), (hM.cast (by kernel_rfl))⟩
                      · intro a w hS
                        obtain ⟨bb15, hF, hM⟩ := hS
                        replace hF : Fr 206 [(0, some (.bool false)), (2, some (.pointer (some ⟨bb13, 0, none⟩))), (4, some (.int .i64 120)), (5, some (.pointer (some ⟨bb15, 0, none⟩))), (6, some (.int .i64 120)), (40, some (.agg #[.int .i64 0, .int .i64 0, .int .i64 1, .int .i64 0, .int .i64 1, .int .i64 (-1), .int .i64 0, .int .i64 2, .int .i64 1073741825, .int .i64 1, .int .i64 1, .int .i64 1073741825, .int .i64 (-9223372036854775808), .int .i64 1])), (41, some (.int .i64 3)), (50, some (.tuple #[.agg #[.int .i64 0, .int .i64 0], .int .i64 120])), (51, some (.agg #[.int .i64 1, .int .i64 1])), (52, some (.agg #[.int .i64 0, .int .i64 2])), (53, some (.tuple #[.agg #[.int .i64 0, .int .i64 0], .int .i64 120])), (54, some (.agg #[.int .i64 0, .int .i64 0])), (55, some (.int .i64 120))] a := hF.cast (by kernel_rfl)
                        replace hM : Mem w0.heap.size w0 [(13, some (.row bb13 23 #[.int .i64 0, .int .i64 2])), (15, some (.row bb15 23 #[.int .i64 0, .int .i64 0]))] w := hM.cast (by kernel_rfl)
                        refine hK43 _ _ ?_
                        refine wp_seq_k fun K44 hK44 => ?_
                        refine wp_region_lit ?_
                        refine wl (eL 57 13 0 (v := .agg #[.int .i64 0, .int .i64 2]) hF hM (by kernel_rfl) rfl rfl (by kernel_rfl) (by kernel_rfl) fun a w hF hM => ?_)
                        refine wl (eL 58 13 0 (v := .agg #[.int .i64 0, .int .i64 2]) hF hM (by kernel_rfl) rfl rfl (by kernel_rfl) (by kernel_rfl) fun a w hF hM => ?_)
                        refine wl (eM 59 (v := .tuple #[.int .i64 0, .int .i64 120]) hF hM (by kernel_rfl) (yld_call (f := 25) (args := #[.agg #[.int .i64 0, .int .i64 2], .agg #[.int .i64 0, .int .i64 2]]) hF (by kernel_rfl) (fun _ => by kernel_rfl) (fun w hM => raCmp_no 0 2 0 2 w (hT.below (Nat.le_refl _) hM.bel) (fun q => absurd q.1 (by decide)))) fun a w hF hM => ?_)
                        refine sB 5 [(56, .tuple #[.int .i64 0, .int .i64 120]), (60, .int .i64 0), (61, .int .i64 120), (7, .int .i64 0), (8, .int .i64 120)] hF (by kernel_rfl) fun a hF => ?_
                        refine wpList_nil ?_
                        refine hK44 _ _ ?_
                        refine wp_seq_k fun K45 hK45 => ?_
                        refine wp_region_lit ?_
                        refine wl (eL 63 13 0 (v := .agg #[.int .i64 0, .int .i64 2]) hF hM (by kernel_rfl) rfl rfl (by kernel_rfl) (by kernel_rfl) fun a w hF hM => ?_)
                        refine wl (eM 64 (v := .tuple #[.int .i64 0, .int .i64 120]) hF hM (by kernel_rfl) (yld_call (f := 26) (args := #[.agg #[.int .i64 0, .int .i64 2]]) hF (by kernel_rfl) (fun _ => by kernel_rfl) (fun w hM => raFloor_no 0 2 w (hT.below (Nat.le_refl _) hM.bel) (by decide))) fun a w hF hM => ?_)
                        refine sB 5 [(62, .tuple #[.int .i64 0, .int .i64 120]), (65, .int .i64 0), (66, .int .i64 120), (9, .int .i64 0), (10, .int .i64 120)] hF (by kernel_rfl) fun a hF => ?_
                        refine wpList_nil ?_
                        refine hK45 _ _ ?_
                        refine wp_seq_k fun K46 hK46 => ?_
                        refine rF (by kernel_rfl) (by kernel_rfl) (fun S a w => ∃ bb16 : Nat, Fr 206 [(0, some (.bool false)), (2, some (.pointer (some ⟨bb13, 0, none⟩))), (4, some (.int .i64 120)), (6, some (.int .i64 120)), (8, some (.int .i64 120)), (10, some (.int .i64 120)), (11, (cond (S.getD 6 false) (some (.pointer (some ⟨bb16, 0, none⟩))) none)), (12, (cond (S.getD 8 false) (some (.int .i64 120)) none)), (40, some (.agg #[.int .i64 0, .int .i64 0, .int .i64 1, .int .i64 0, .int .i64 1, .int .i64 (-1), .int .i64 0, .int .i64 2, .int .i64 1073741825, .int .i64 1, .int .i64 1, .int .i64 1073741825, .int .i64 (-9223372036854775808), .int .i64 1])), (41, some (.int .i64 3)), (67, (cond (S.getD 3 false) (some (.tuple #[.agg #[.int .i64 0, .int .i64 0], .int .i64 120])) none)), (68, (cond (S.getD 0 false) (some (.agg #[.int .i64 1, .int .i64 1])) none)), (69, (cond (S.getD 1 false) (some (.agg #[.int .i64 0, .int .i64 2])) none)), (70, (cond (S.getD 2 false) (some (.tuple #[.agg #[.int .i64 0, .int .i64 0], .int .i64 120])) none)), (71, (cond (S.getD 4 false) (some (.agg #[.int .i64 0, .int .i64 0])) none)), (72, (cond (S.getD 5 false) (some (.int .i64 120)) none))] a ∧ Mem w0.heap.size w0 [(13, some (.row bb13 23 #[.int .i64 0, .int .i64 2])), (16, (cond (S.getD 7 false) (some (.row bb16 23 #[.int .i64 0, .int .i64 0])) (cond (S.getD 6 false) (some (.row bb16 23 #[.int .i64 0, .int .i64 0])) none)))] w) ?_ ?_ ?_
                        · exact ⟨0, (((((((((((((((((Fr.nil hF).co hF (i := 72) (by kernel_rfl)).co hF (i := 71) (by kernel_rfl)).co hF (i := 70) (by kernel_rfl)).co hF (i := 69) (by kernel_rfl)).co hF (i := 68) (by kernel_rfl)).co hF (i := 67) (by kernel_rfl)).co hF (i := 41) (by kernel_rfl)).co hF (i := 40) (by kernel_rfl)).co hF (i := 12) (by kernel_rfl)).co hF (i := 11) (by kernel_rfl)).co hF (i := 10) (by kernel_rfl)).co hF (i := 8) (by kernel_rfl)).co hF (i := 6) (by kernel_rfl)).co hF (i := 4) (by kernel_rfl)).co hF (i := 2) (by kernel_rfl)).co hF (i := 0) (by kernel_rfl)), hM.drew.sub ((Sub.nil.co (k := 16) (by kernel_rfl)).co (k := 13) (by kernel_rfl))⟩
                        · refine stC ?_ (stC ?_ (stC ?_ (stC ?_ (stC ?_ (stC ?_ (stC ?_ (stC ?_ (stC ?_ (trivial)))))))))
                          · intro s0 s1 s2 s3 s4 s5 s6 s7 s8 hc hi hp a w hS
                            obtain rfl : s0 = false := hi
                            obtain ⟨bb16, hF, hM⟩ := hS
                            refine eM 68 (v := .agg #[.int .i64 1, .int .i64 1]) hF hM (by kernel_rfl) (yld_call (f := 28) (args := #[.int .i64 1, .int .i64 1]) hF (by kernel_rfl) (fun _ => by kernel_rfl) (fun w hM => of_w 1 1 w)) fun a w hF hM => ?_
                            exact ⟨bb16, ((hF.repl 11 (by kernel_rfl)).cast (by kernel_rfl)), (hM.cast (by kernel_rfl))⟩
                          · intro s0 s1 s2 s3 s4 s5 s6 s7 s8 hc hi hp a w hS
                            obtain rfl : s1 = false := hi
                            obtain ⟨bb16, hF, hM⟩ := hS
                            refine eL 69 13 0 (v := .agg #[.int .i64 0, .int .i64 2]) hF hM (by kernel_rfl) rfl rfl (by kernel_rfl) (by kernel_rfl) fun a w hF hM => ?_
                            exact ⟨bb16, ((hF.repl 12 (by kernel_rfl)).cast (by kernel_rfl)), (hM.cast (by kernel_rfl))⟩
                          · intro s0 s1 s2 s3 s4 s5 s6 s7 s8 hc hi hp a w hS
                            obtain rfl : s2 = false := hi
                            obtain rfl : s1 = true := hp 1 (by kernel_rfl)
                            obtain rfl : s0 = true := hp 0 (by kernel_rfl)
                            obtain ⟨bb16, hF, hM⟩ := hS
                            refine eM 70 (v := .tuple #[.agg #[.int .i64 0, .int .i64 0], .int .i64 120]) hF hM (by kernel_rfl) (yld_call (f := 29) (args := #[.agg #[.int .i64 1, .int .i64 1], .agg #[.int .i64 0, .int .i64 2]]) hF (by kernel_rfl) (fun _ => by kernel_rfl) (fun w hM => raMax_no 1 1 0 2 w (hT.below (Nat.le_refl _) hM.bel) (fun q => absurd q.2 (by decide)))) fun a w hF hM => ?_
                            exact ⟨bb16, ((hF.repl 13 (by kernel_rfl)).cast (by kernel_rfl)), (hM.cast (by kernel_rfl))⟩
                          · intro s0 s1 s2 s3 s4 s5 s6 s7 s8 hc hi hp a w hS
                            obtain rfl : s3 = false := hi
                            obtain rfl : s2 = true := hp 2 (by kernel_rfl)
                            obtain ⟨bb16, hF, hM⟩ := hS
                            refine eP 67 (v0 := .tuple #[.agg #[.int .i64 0, .int .i64 0], .int .i64 120]) (v := .tuple #[.agg #[.int .i64 0, .int .i64 0], .int .i64 120]) hF (by kernel_rfl) (fun _ => by kernel_rfl) rfl fun a hF => ?_
                            exact ⟨bb16, ((hF.repl 10 (by kernel_rfl)).cast (by kernel_rfl)), (hM.cast (by kernel_rfl))⟩
                          · intro s0 s1 s2 s3 s4 s5 s6 s7 s8 hc hi hp a w hS
                            obtain rfl : s4 = false := hi
                            obtain rfl : s3 = true := hp 3 (by kernel_rfl)
                            obtain ⟨bb16, hF, hM⟩ := hS
                            refine eP 71 (v0 := .agg #[.int .i64 0, .int .i64 0]) (v := .agg #[.int .i64 0, .int .i64 0]) hF (by kernel_rfl) (fun _ => by kernel_rfl) rfl fun a hF => ?_
                            exact ⟨bb16, ((hF.repl 14 (by kernel_rfl)).cast (by kernel_rfl)), (hM.cast (by kernel_rfl))⟩
                          · intro s0 s1 s2 s3 s4 s5 s6 s7 s8 hc hi hp a w hS
                            obtain rfl : s5 = false := hi
                            obtain rfl : s3 = true := hp 3 (by kernel_rfl)
                            obtain ⟨bb16, hF, hM⟩ := hS
                            refine eP 72 (v0 := .int .i64 120) (v := .int .i64 120) hF (by kernel_rfl) (fun _ => by kernel_rfl) rfl fun a hF => ?_
                            exact ⟨bb16, ((hF.repl 15 (by kernel_rfl)).cast (by kernel_rfl)), (hM.cast (by kernel_rfl))⟩
                          · intro s0 s1 s2 s3 s4 s5 s6 s7 s8 hc hi hp a w hS
                            obtain rfl : s6 = false := hi
                            obtain rfl : s7 = false := hc.f 7 6 (by kernel_rfl) rfl
                            obtain ⟨bb16, hF, hM⟩ := hS
                            refine eN 11 16 (t := 23) (fun b => .pointer (some ⟨b, 0, none⟩)) #[.int .i64 0, .int .i64 0] hF hM (by kernel_rfl) (fun _ => by kernel_rfl) fun bb16 a w hF hM => ?_
                            exact ⟨bb16, ((hF.repl 6 (by kernel_rfl)).cast (by kernel_rfl)), ((hM.repl 1 (by kernel_rfl)).cast (by kernel_rfl))⟩
                          · intro s0 s1 s2 s3 s4 s5 s6 s7 s8 hc hi hp a w hS
                            obtain rfl : s7 = false := hi
                            obtain rfl : s6 = true := hp 6 (by kernel_rfl)
                            obtain rfl : s4 = true := hp 4 (by kernel_rfl)
                            obtain ⟨bb16, hF, hM⟩ := hS
                            refine sStore (i := 16) (off := 0) (cs' := #[.int .i64 0, .int .i64 0]) hF hM (by kernel_rfl) rfl rfl (by kernel_rfl) (by kernel_rfl) rfl (by kernel_rfl) fun w hM => ?_
                            exact ⟨bb16, (hF.cast (by kernel_rfl)), ((hM.repl 1 (by kernel_rfl)).cast (by kernel_rfl))⟩
                          · intro s0 s1 s2 s3 s4 s5 s6 s7 s8 hc hi hp a w hS
                            obtain rfl : s8 = false := hi
                            obtain rfl : s5 = true := hp 5 (by kernel_rfl)
                            obtain ⟨bb16, hF, hM⟩ := hS
                            refine eP 12 (v0 := .int .i64 120) (v := .int .i64 120) hF (by kernel_rfl) (fun _ => by kernel_rfl) rfl fun a hF => ?_
                            exact ⟨bb16, ((hF.repl 7 (by kernel_rfl)).cast (by kernel_rfl)), (hM.cast (by kernel_rfl))⟩
                        · intro a w hS
                          obtain ⟨bb16, hF, hM⟩ := hS
                          replace hF : Fr 206 [(0, some (.bool false)), (2, some (.pointer (some ⟨bb13, 0, none⟩))), (4, some (.int .i64 120)), (6, some (.int .i64 120)), (8, some (.int .i64 120)), (10, some (.int .i64 120)), (11, some (.pointer (some ⟨bb16, 0, none⟩))), (12, some (.int .i64 120)), (40, some (.agg #[.int .i64 0, .int .i64 0, .int .i64 1, .int .i64 0, .int .i64 1, .int .i64 (-1), .int .i64 0, .int .i64 2, .int .i64 1073741825, .int .i64 1, .int .i64 1, .int .i64 1073741825, .int .i64 (-9223372036854775808), .int .i64 1])), (41, some (.int .i64 3)), (67, some (.tuple #[.agg #[.int .i64 0, .int .i64 0], .int .i64 120])), (68, some (.agg #[.int .i64 1, .int .i64 1])), (69, some (.agg #[.int .i64 0, .int .i64 2])), (70, some (.tuple #[.agg #[.int .i64 0, .int .i64 0], .int .i64 120])), (71, some (.agg #[.int .i64 0, .int .i64 0])), (72, some (.int .i64 120))] a := hF.cast (by kernel_rfl)
                          replace hM : Mem w0.heap.size w0 [(13, some (.row bb13 23 #[.int .i64 0, .int .i64 2])), (16, some (.row bb16 23 #[.int .i64 0, .int .i64 0]))] w := hM.cast (by kernel_rfl)
                          refine hK46 _ _ ?_
                          refine wp_seq_k fun K47 hK47 => ?_
                          refine wp_region_lit ?_
                          refine wl (eL 73 13 0 (v := .agg #[.int .i64 0, .int .i64 2]) hF hM (by kernel_rfl) rfl rfl (by kernel_rfl) (by kernel_rfl) fun a w hF hM => ?_)
                          refine wl (eM 74 (v := .int .i64 120) hF hM (by kernel_rfl) (Yld.to (yld_call (f := 12) (args := #[.agg #[.int .i64 0, .int .i64 2]]) hF (by kernel_rfl) (fun _ => by kernel_rfl) (fun w hM => raCheck_w 0 2 w (hT.below (Nat.le_refl _) hM.bel))) (by kernel_rfl)) fun a w hF hM => ?_)
                          refine wl (eP 75 (v0 := .bool (!decide (120 = 120))) (v := .bool false) hF (by kernel_rfl) (fun _ => by kernel_rfl) (nT (by omega)) fun a hF => ?_)
                          refine sB 2 [(76, .bool false), (77, .int .i64 120)] hF (by kernel_rfl) fun a hF => ?_
                          refine wl (eP 78 (v0 := .bool (!decide (120 = 120))) (v := .bool false) hF (by kernel_rfl) (fun _ => by kernel_rfl) (nT (by omega)) fun a hF => ?_)
                          refine sB 3 [(79, .bool false), (80, .bool false), (81, .int .i64 120)] hF (by kernel_rfl) fun a hF => ?_
                          refine wl (eP 82 (v0 := .bool (!decide (120 = 120))) (v := .bool false) hF (by kernel_rfl) (fun _ => by kernel_rfl) (nT (by omega)) fun a hF => ?_)
                          refine sB 3 [(83, .bool false), (84, .bool false), (85, .int .i64 120)] hF (by kernel_rfl) fun a hF => ?_
                          refine wl (eP 86 (v0 := .bool (!decide (120 = 120))) (v := .bool false) hF (by kernel_rfl) (fun _ => by kernel_rfl) (nT (by omega)) fun a hF => ?_)
                          refine sB 3 [(87, .bool false), (88, .bool false), (89, .int .i64 120)] hF (by kernel_rfl) fun a hF => ?_
                          refine wl (eP 90 (v0 := .bool (!decide (120 = 120))) (v := .bool false) hF (by kernel_rfl) (fun _ => by kernel_rfl) (nT (by omega)) fun a hF => ?_)
                          refine sB 3 [(91, .bool false), (92, .bool false), (93, .int .i64 120)] hF (by kernel_rfl) fun a hF => ?_
                          refine wl (eP 94 (v0 := .bool (!decide (120 = 120))) (v := .bool false) hF (by kernel_rfl) (fun _ => by kernel_rfl) (nT (by omega)) fun a hF => ?_)
                          refine sB 1 [(95, .bool false)] hF (by kernel_rfl) fun a hF => ?_
                          refine wpList_nil ?_
                          refine hK47 _ _ ?_
                          refine cF hF (by kernel_rfl) (by kernel_rfl) ?_
                          refine wp_skip ?_
                          refine hK40 _ _ ?_
                          refine wp_region_lit ?_
                          refine wl (eP 96 (v0 := .int .i64 (IntKind.i64.wrap (3 + 1))) (v := .int .i64 4) hF (by kernel_rfl) (fun _ => by kernel_rfl) (vi (by decide)) fun a hF => ?_)
                          refine sB 1 [(41, .int .i64 4)] hF (by kernel_rfl) fun a hF => ?_
                          refine wpList_nil ?_
                          refine hK37 _ _ ?_
                          refine rounds_k fun K48 hK48 => ?_
                          refine wp_seq_k fun K49 hK49 => ?_
                          refine wp_region_lit ?_
                          refine wl (eP 42 (v0 := .bool (decide (4 < 7))) (v := .bool true) hF (by kernel_rfl) (fun _ => by kernel_rfl) (bT (by omega)) fun a hF => ?_)
                          refine wpList_nil ?_
                          refine hK49 _ _ ?_
                          refine wp_seq_k fun K50 hK50 => ?_
                          refine cT hF (by kernel_rfl) (by kernel_rfl) ?_
                          refine wp_skip ?_
                          refine hK50 _ _ ?_
                          refine wp_seq_k fun K51 hK51 => ?_
                          refine wp_block ?_
                          refine wp_seq_k fun K52 hK52 => ?_
                          refine wp_region_lit ?_
                          refine sB 1 [(43, .agg #[.int .i64 1073741825, .int .i64 1])] hF (by kernel_rfl) fun a hF => ?_
                          refine wl (eN 2 17 (t := 23) (fun b => .pointer (some ⟨b, 0, none⟩)) #[.int .i64 0, .int .i64 0] hF hM (by kernel_rfl) (fun _ => by kernel_rfl) fun bb17 a w hF hM => ?_)
                          refine wl (sStore (i := 17) (off := 0) (cs' := #[.int .i64 1073741825, .int .i64 1]) hF hM (by kernel_rfl) rfl rfl (by kernel_rfl) (by kernel_rfl) rfl (by kernel_rfl) fun w hM => ?_)
                          refine wpList_nil ?_
                          refine hK52 _ _ ?_
                          refine wp_seq_k fun K53 hK53 => ?_
                          refine rF (by kernel_rfl) (by kernel_rfl) (fun S a w => ∃ bb18 : Nat, Fr 206 [(0, some (.bool false)), (2, some (.pointer (some ⟨bb17, 0, none⟩))), (3, (cond (S.getD 6 false) (some (.pointer (some ⟨bb18, 0, none⟩))) none)), (4, (cond (S.getD 8 false) (some (.int .i64 120)) (some (.int .i64 120)))), (40, some (.agg #[.int .i64 0, .int .i64 0, .int .i64 1, .int .i64 0, .int .i64 1, .int .i64 (-1), .int .i64 0, .int .i64 2, .int .i64 1073741825, .int .i64 1, .int .i64 1, .int .i64 1073741825, .int .i64 (-9223372036854775808), .int .i64 1])), (41, some (.int .i64 4)), (44, (cond (S.getD 3 false) (some (.tuple #[.agg #[.int .i64 0, .int .i64 0], .int .i64 120])) none)), (45, (cond (S.getD 0 false) (some (.agg #[.int .i64 1073741825, .int .i64 1])) none)), (46, (cond (S.getD 1 false) (some (.agg #[.int .i64 1, .int .i64 1])) none)), (47, (cond (S.getD 2 false) (some (.tuple #[.agg #[.int .i64 0, .int .i64 0], .int .i64 120])) none)), (48, (cond (S.getD 4 false) (some (.agg #[.int .i64 0, .int .i64 0])) none)), (49, (cond (S.getD 5 false) (some (.int .i64 120)) none))] a ∧ Mem w0.heap.size w0 [(17, some (.row bb17 23 #[.int .i64 1073741825, .int .i64 1])), (18, (cond (S.getD 7 false) (some (.row bb18 23 #[.int .i64 0, .int .i64 0])) (cond (S.getD 6 false) (some (.row bb18 23 #[.int .i64 0, .int .i64 0])) none)))] w) ?_ ?_ ?_
                          · exact ⟨0, (((((((((((((Fr.nil hF).co hF (i := 49) (by kernel_rfl)).co hF (i := 48) (by kernel_rfl)).co hF (i := 47) (by kernel_rfl)).co hF (i := 46) (by kernel_rfl)).co hF (i := 45) (by kernel_rfl)).co hF (i := 44) (by kernel_rfl)).co hF (i := 41) (by kernel_rfl)).co hF (i := 40) (by kernel_rfl)).co hF (i := 4) (by kernel_rfl)).co hF (i := 3) (by kernel_rfl)).co hF (i := 2) (by kernel_rfl)).co hF (i := 0) (by kernel_rfl)), hM.drew.sub ((Sub.nil.co (k := 18) (by kernel_rfl)).co (k := 17) (by kernel_rfl))⟩
                          · refine stC ?_ (stC ?_ (stC ?_ (stC ?_ (stC ?_ (stC ?_ (stC ?_ (stC ?_ (stC ?_ (trivial)))))))))
                            · intro s0 s1 s2 s3 s4 s5 s6 s7 s8 hc hi hp a w hS
                              obtain rfl : s0 = false := hi
                              obtain ⟨bb18, hF, hM⟩ := hS
                              refine eL 45 17 0 (v := .agg #[.int .i64 1073741825, .int .i64 1]) hF hM (by kernel_rfl) rfl rfl (by kernel_rfl) (by kernel_rfl) fun a w hF hM => ?_
                              exact ⟨bb18, ((hF.repl 7 (by kernel_rfl)).cast (by kernel_rfl)), (hM.cast (by kernel_rfl))⟩
                            · intro s0 s1 s2 s3 s4 s5 s6 s7 s8 hc hi hp a w hS
                              obtain rfl : s1 = false := hi
                              obtain ⟨bb18, hF, hM⟩ := hS
                              refine eM 46 (v := .agg #[.int .i64 1, .int .i64 1]) hF hM (by kernel_rfl) (yld_call (f := 28) (args := #[.int .i64 1, .int .i64 1]) hF (by kernel_rfl) (fun _ => by kernel_rfl) (fun w hM => of_w 1 1 w)) fun a w hF hM => ?_
                              exact ⟨bb18, ((hF.repl 8 (by kernel_rfl)).cast (by kernel_rfl)), (hM.cast (by kernel_rfl))⟩
                            · intro s0 s1 s2 s3 s4 s5 s6 s7 s8 hc hi hp a w hS
                              obtain rfl : s2 = false := hi
                              obtain rfl : s1 = true := hp 1 (by kernel_rfl)
                              obtain rfl : s0 = true := hp 0 (by kernel_rfl)
                              obtain ⟨bb18, hF, hM⟩ := hS
                              refine eM 47 (v := .tuple #[.agg #[.int .i64 0, .int .i64 0], .int .i64 120]) hF hM (by kernel_rfl) (yld_call (f := 16) (args := #[.agg #[.int .i64 1073741825, .int .i64 1], .agg #[.int .i64 1, .int .i64 1]]) hF (by kernel_rfl) (fun _ => by kernel_rfl) (fun w hM => raAdd_no 1073741825 1 1 1 w (hT.below (Nat.le_refl _) hM.bel) (fun q => absurd q.1 (by decide)))) fun a w hF hM => ?_
                              exact ⟨bb18, ((hF.repl 9 (by kernel_rfl)).cast (by kernel_rfl)), (hM.cast (by kernel_rfl))⟩
                            · intro s0 s1 s2 s3 s4 s5 s6 s7 s8 hc hi hp a w hS
                              obtain rfl : s3 = false := hi
                              obtain rfl : s2 = true := hp 2 (by kernel_rfl)
                              obtain ⟨bb18, hF, hM⟩ := hS
                              refine eP 44 (v0 := .tuple #[.agg #[.int .i64 0, .int .i64 0], .int .i64 120]) (v := .tuple #[.agg #[.int .i64 0, .int .i64 0], .int .i64 120]) hF (by kernel_rfl) (fun _ => by kernel_rfl) rfl fun a hF => ?_
                              exact ⟨bb18, ((hF.repl 6 (by kernel_rfl)).cast (by kernel_rfl)), (hM.cast (by kernel_rfl))⟩
                            · intro s0 s1 s2 s3 s4 s5 s6 s7 s8 hc hi hp a w hS
                              obtain rfl : s4 = false := hi
                              obtain rfl : s3 = true := hp 3 (by kernel_rfl)
                              obtain ⟨bb18, hF, hM⟩ := hS
                              refine eP 48 (v0 := .agg #[.int .i64 0, .int .i64 0]) (v := .agg #[.int .i64 0, .int .i64 0]) hF (by kernel_rfl) (fun _ => by kernel_rfl) rfl fun a hF => ?_
                              exact ⟨bb18, ((hF.repl 10 (by kernel_rfl)).cast (by kernel_rfl)), (hM.cast (by kernel_rfl))⟩
                            · intro s0 s1 s2 s3 s4 s5 s6 s7 s8 hc hi hp a w hS
                              obtain rfl : s5 = false := hi
                              obtain rfl : s3 = true := hp 3 (by kernel_rfl)
                              obtain ⟨bb18, hF, hM⟩ := hS
                              refine eP 49 (v0 := .int .i64 120) (v := .int .i64 120) hF (by kernel_rfl) (fun _ => by kernel_rfl) rfl fun a hF => ?_
                              exact ⟨bb18, ((hF.repl 11 (by kernel_rfl)).cast (by kernel_rfl)), (hM.cast (by kernel_rfl))⟩
                            · intro s0 s1 s2 s3 s4 s5 s6 s7 s8 hc hi hp a w hS
                              obtain rfl : s6 = false := hi
                              obtain rfl : s7 = false := hc.f 7 6 (by kernel_rfl) rfl
                              obtain ⟨bb18, hF, hM⟩ := hS
                              refine eN 3 18 (t := 23) (fun b => .pointer (some ⟨b, 0, none⟩)) #[.int .i64 0, .int .i64 0] hF hM (by kernel_rfl) (fun _ => by kernel_rfl) fun bb18 a w hF hM => ?_
                              exact ⟨bb18, ((hF.repl 2 (by kernel_rfl)).cast (by kernel_rfl)), ((hM.repl 1 (by kernel_rfl)).cast (by kernel_rfl))⟩
                            · intro s0 s1 s2 s3 s4 s5 s6 s7 s8 hc hi hp a w hS
                              obtain rfl : s7 = false := hi
                              obtain rfl : s6 = true := hp 6 (by kernel_rfl)
                              obtain rfl : s4 = true := hp 4 (by kernel_rfl)
                              obtain ⟨bb18, hF, hM⟩ := hS
                              refine sStore (i := 18) (off := 0) (cs' := #[.int .i64 0, .int .i64 0]) hF hM (by kernel_rfl) rfl rfl (by kernel_rfl) (by kernel_rfl) rfl (by kernel_rfl) fun w hM => ?_
                              exact ⟨bb18, (hF.cast (by kernel_rfl)), ((hM.repl 1 (by kernel_rfl)).cast (by kernel_rfl))⟩
                            · intro s0 s1 s2 s3 s4 s5 s6 s7 s8 hc hi hp a w hS
                              obtain rfl : s8 = false := hi
                              obtain rfl : s5 = true := hp 5 (by kernel_rfl)
                              obtain ⟨bb18, hF, hM⟩ := hS
                              refine eP 4 (v0 := .int .i64 120) (v := .int .i64 120) hF (by kernel_rfl) (fun _ => by kernel_rfl) rfl fun a hF => ?_
                              exact ⟨bb18, ((hF.repl 3 (by kernel_rfl)).cast (by kernel_rfl)), (hM.cast (by kernel_rfl))⟩
                          · intro a w hS
                            obtain ⟨bb18, hF, hM⟩ := hS
                            replace hF : Fr 206 [(0, some (.bool false)), (2, some (.pointer (some ⟨bb17, 0, none⟩))), (3, some (.pointer (some ⟨bb18, 0, none⟩))), (4, some (.int .i64 120)), (40, some (.agg #[.int .i64 0, .int .i64 0, .int .i64 1, .int .i64 0, .int .i64 1, .int .i64 (-1), .int .i64 0, .int .i64 2, .int .i64 1073741825, .int .i64 1, .int .i64 1, .int .i64 1073741825, .int .i64 (-9223372036854775808), .int .i64 1])), (41, some (.int .i64 4)), (44, some (.tuple #[.agg #[.int .i64 0, .int .i64 0], .int .i64 120])), (45, some (.agg #[.int .i64 1073741825, .int .i64 1])), (46, some (.agg #[.int .i64 1, .int .i64 1])), (47, some (.tuple #[.agg #[.int .i64 0, .int .i64 0], .int .i64 120])), (48, some (.agg #[.int .i64 0, .int .i64 0])), (49, some (.int .i64 120))] a := hF.cast (by kernel_rfl)
                            replace hM : Mem w0.heap.size w0 [(17, some (.row bb17 23 #[.int .i64 1073741825, .int .i64 1])), (18, some (.row bb18 23 #[.int .i64 0, .int .i64 0]))] w := hM.cast (by kernel_rfl)
                            refine hK53 _ _ ?_
                            refine wp_seq_k fun K54 hK54 => ?_
                            refine rF (by kernel_rfl) (by kernel_rfl) (fun S a w => ∃ bb19 : Nat, Fr 206 [(0, some (.bool false)), (2, some (.pointer (some ⟨bb17, 0, none⟩))), (4, some (.int .i64 120)), (5, (cond (S.getD 6 false) (some (.pointer (some ⟨bb19, 0, none⟩))) none)), (6, (cond (S.getD 8 false) (some (.int .i64 120)) none)), (40, some (.agg #[.int .i64 0, .int .i64 0, .int .i64 1, .int .i64 0, .int .i64 1, .int .i64 (-1), .int .i64 0, .int .i64 2, .int .i64 1073741825, .int .i64 1, .int .i64 1, .int .i64 1073741825, .int .i64 (-9223372036854775808), .int .i64 1])), (41, some (.int .i64 4)), (50, (cond (S.getD 3 false) (some (.tuple #[.agg #[.int .i64 0, .int .i64 0], .int .i64 120])) none)), (51, (cond (S.getD 0 false) (some (.agg #[.int .i64 1, .int .i64 1])) none)), (52, (cond (S.getD 1 false) (some (.agg #[.int .i64 1073741825, .int .i64 1])) none)), (53, (cond (S.getD 2 false) (some (.tuple #[.agg #[.int .i64 0, .int .i64 0], .int .i64 120])) none)), (54, (cond (S.getD 4 false) (some (.agg #[.int .i64 0, .int .i64 0])) none)), (55, (cond (S.getD 5 false) (some (.int .i64 120)) none))] a ∧ Mem w0.heap.size w0 [(17, some (.row bb17 23 #[.int .i64 1073741825, .int .i64 1])), (19, (cond (S.getD 7 false) (some (.row bb19 23 #[.int .i64 0, .int .i64 0])) (cond (S.getD 6 false) (some (.row bb19 23 #[.int .i64 0, .int .i64 0])) none)))] w) ?_ ?_ ?_
                            · exact ⟨0, ((((((((((((((Fr.nil hF).co hF (i := 55) (by kernel_rfl)).co hF (i := 54) (by kernel_rfl)).co hF (i := 53) (by kernel_rfl)).co hF (i := 52) (by kernel_rfl)).co hF (i := 51) (by kernel_rfl)).co hF (i := 50) (by kernel_rfl)).co hF (i := 41) (by kernel_rfl)).co hF (i := 40) (by kernel_rfl)).co hF (i := 6) (by kernel_rfl)).co hF (i := 5) (by kernel_rfl)).co hF (i := 4) (by kernel_rfl)).co hF (i := 2) (by kernel_rfl)).co hF (i := 0) (by kernel_rfl)), hM.drew.sub ((Sub.nil.co (k := 19) (by kernel_rfl)).co (k := 17) (by kernel_rfl))⟩
                            · refine stC ?_ (stC ?_ (stC ?_ (stC ?_ (stC ?_ (stC ?_ (stC ?_ (stC ?_ (stC ?_ (trivial)))))))))
                              · intro s0 s1 s2 s3 s4 s5 s6 s7 s8 hc hi hp a w hS
                                obtain rfl : s0 = false := hi
                                obtain ⟨bb19, hF, hM⟩ := hS
                                refine eM 51 (v := .agg #[.int .i64 1, .int .i64 1]) hF hM (by kernel_rfl) (yld_call (f := 28) (args := #[.int .i64 1, .int .i64 1]) hF (by kernel_rfl) (fun _ => by kernel_rfl) (fun w hM => of_w 1 1 w)) fun a w hF hM => ?_
                                exact ⟨bb19, ((hF.repl 8 (by kernel_rfl)).cast (by kernel_rfl)), (hM.cast (by kernel_rfl))⟩
                              · intro s0 s1 s2 s3 s4 s5 s6 s7 s8 hc hi hp a w hS
                                obtain rfl : s1 = false := hi
                                obtain ⟨bb19, hF, hM⟩ := hS
                                refine eL 52 17 0 (v := .agg #[.int .i64 1073741825, .int .i64 1]) hF hM (by kernel_rfl) rfl rfl (by kernel_rfl) (by kernel_rfl) fun a w hF hM => ?_
                                exact ⟨bb19, ((hF.repl 9 (by kernel_rfl)).cast (by kernel_rfl)), (hM.cast (by kernel_rfl))⟩
                              · intro s0 s1 s2 s3 s4 s5 s6 s7 s8 hc hi hp a w hS
                                obtain rfl : s2 = false := hi
                                obtain rfl : s1 = true := hp 1 (by kernel_rfl)
                                obtain rfl : s0 = true := hp 0 (by kernel_rfl)
                                obtain ⟨bb19, hF, hM⟩ := hS
                                refine eM 53 (v := .tuple #[.agg #[.int .i64 0, .int .i64 0], .int .i64 120]) hF hM (by kernel_rfl) (yld_call (f := 22) (args := #[.agg #[.int .i64 1, .int .i64 1], .agg #[.int .i64 1073741825, .int .i64 1]]) hF (by kernel_rfl) (fun _ => by kernel_rfl) (fun w hM => raDiv_no 1 1 1073741825 1 w (hT.below (Nat.le_refl _) hM.bel) (fun q => absurd q.2 (by decide)))) fun a w hF hM => ?_
                                exact ⟨bb19, ((hF.repl 10 (by kernel_rfl)).cast (by kernel_rfl)), (hM.cast (by kernel_rfl))⟩
                              · intro s0 s1 s2 s3 s4 s5 s6 s7 s8 hc hi hp a w hS
                                obtain rfl : s3 = false := hi
                                obtain rfl : s2 = true := hp 2 (by kernel_rfl)
                                obtain ⟨bb19, hF, hM⟩ := hS
                                refine eP 50 (v0 := .tuple #[.agg #[.int .i64 0, .int .i64 0], .int .i64 120]) (v := .tuple #[.agg #[.int .i64 0, .int .i64 0], .int .i64 120]) hF (by kernel_rfl) (fun _ => by kernel_rfl) rfl fun a hF => ?_
                                exact ⟨bb19, ((hF.repl 7 (by kernel_rfl)).cast (by kernel_rfl)), (hM.cast (by kernel_rfl))⟩
                              · intro s0 s1 s2 s3 s4 s5 s6 s7 s8 hc hi hp a w hS
                                obtain rfl : s4 = false := hi
                                obtain rfl : s3 = true := hp 3 (by kernel_rfl)
                                obtain ⟨bb19, hF, hM⟩ := hS
                                refine eP 54 (v0 := .agg #[.int .i64 0, .int .i64 0]) (v := .agg #[.int .i64 0, .int .i64 0]) hF (by kernel_rfl) (fun _ => by kernel_rfl) rfl fun a hF => ?_
                                exact ⟨bb19, ((hF.repl 11 (by kernel_rfl)).cast (by kernel_rfl)), (hM.cast (by kernel_rfl))⟩
                              · intro s0 s1 s2 s3 s4 s5 s6 s7 s8 hc hi hp a w hS
                                obtain rfl : s5 = false := hi
                                obtain rfl : s3 = true := hp 3 (by kernel_rfl)
                                obtain ⟨bb19, hF, hM⟩ := hS
                                refine eP 55 (v0 := .int .i64 120) (v := .int .i64 120) hF (by kernel_rfl) (fun _ => by kernel_rfl) rfl fun a hF => ?_
                                exact ⟨bb19, ((hF.repl 12 (by kernel_rfl)).cast (by kernel_rfl)), (hM.cast (by kernel_rfl))⟩
                              · intro s0 s1 s2 s3 s4 s5 s6 s7 s8 hc hi hp a w hS
                                obtain rfl : s6 = false := hi
                                obtain rfl : s7 = false := hc.f 7 6 (by kernel_rfl) rfl
                                obtain ⟨bb19, hF, hM⟩ := hS
                                refine eN 5 19 (t := 23) (fun b => .pointer (some ⟨b, 0, none⟩)) #[.int .i64 0, .int .i64 0] hF hM (by kernel_rfl) (fun _ => by kernel_rfl) fun bb19 a w hF hM => ?_
                                exact ⟨bb19, ((hF.repl 3 (by kernel_rfl)).cast (by kernel_rfl)), ((hM.repl 1 (by kernel_rfl)).cast (by kernel_rfl))⟩
                              · intro s0 s1 s2 s3 s4 s5 s6 s7 s8 hc hi hp a w hS
                                obtain rfl : s7 = false := hi
                                obtain rfl : s6 = true := hp 6 (by kernel_rfl)
                                obtain rfl : s4 = true := hp 4 (by kernel_rfl)
                                obtain ⟨bb19, hF, hM⟩ := hS
                                refine sStore (i := 19) (off := 0) (cs' := #[.int .i64 0, .int .i64 0]) hF hM (by kernel_rfl) rfl rfl (by kernel_rfl) (by kernel_rfl) rfl (by kernel_rfl) fun w hM => ?_
                                exact ⟨bb19, (hF.cast (by kernel_rfl)), ((hM.repl 1 (by kernel_rfl)).cast (by kernel_rfl))⟩
                              · intro s0 s1 s2 s3 s4 s5 s6 s7 s8 hc hi hp a w hS
                                obtain rfl : s8 = false := hi
                                obtain rfl : s5 = true := hp 5 (by kernel_rfl)
                                obtain ⟨bb19, hF, hM⟩ := hS
                                refine eP 6 (v0 := .int .i64 120) (v := .int .i64 120) hF (by kernel_rfl) (fun _ => by kernel_rfl) rfl fun a hF => ?_
                                exact ⟨bb19, ((hF.repl 4 (by kernel_rfl)).cast (by kernel_rfl)), (hM.cast (by kernel_rfl))⟩
                            · intro a w hS
                              obtain ⟨bb19, hF, hM⟩ := hS
                              replace hF : Fr 206 [(0, some (.bool false)), (2, some (.pointer (some ⟨bb17, 0, none⟩))), (4, some (.int .i64 120)), (5, some (.pointer (some ⟨bb19, 0, none⟩))), (6, some (.int .i64 120)), (40, some (.agg #[.int .i64 0, .int .i64 0, .int .i64 1, .int .i64 0, .int .i64 1, .int .i64 (-1), .int .i64 0, .int .i64 2, .int .i64 1073741825, .int .i64 1, .int .i64 1, .int .i64 1073741825, .int .i64 (-9223372036854775808), .int .i64 1])), (41, some (.int .i64 4)), (50, some (.tuple #[.agg #[.int .i64 0, .int .i64 0], .int .i64 120])), (51, some (.agg #[.int .i64 1, .int .i64 1])), (52, some (.agg #[.int .i64 1073741825, .int .i64 1])), (53, some (.tuple #[.agg #[.int .i64 0, .int .i64 0], .int .i64 120])), (54, some (.agg #[.int .i64 0, .int .i64 0])), (55, some (.int .i64 120))] a := hF.cast (by kernel_rfl)
                              replace hM : Mem w0.heap.size w0 [(17, some (.row bb17 23 #[.int .i64 1073741825, .int .i64 1])), (19, some (.row bb19 23 #[.int .i64 0, .int .i64 0]))] w := hM.cast (by kernel_rfl)
                              refine hK54 _ _ ?_
                              refine wp_seq_k fun K55 hK55 => ?_
                              refine wp_region_lit ?_
                              refine wl (eL 57 17 0 (v := .agg #[.int .i64 1073741825, .int .i64 1]) hF hM (by kernel_rfl) rfl rfl (by kernel_rfl) (by kernel_rfl) fun a w hF hM => ?_)
                              refine wl (eL 58 17 0 (v := .agg #[.int .i64 1073741825, .int .i64 1]) hF hM (by kernel_rfl) rfl rfl (by kernel_rfl) (by kernel_rfl) fun a w hF hM => ?_)
                              refine wl (eM 59 (v := .tuple #[.int .i64 0, .int .i64 120]) hF hM (by kernel_rfl) (yld_call (f := 25) (args := #[.agg #[.int .i64 1073741825, .int .i64 1], .agg #[.int .i64 1073741825, .int .i64 1]]) hF (by kernel_rfl) (fun _ => by kernel_rfl) (fun w hM => raCmp_no 1073741825 1 1073741825 1 w (hT.below (Nat.le_refl _) hM.bel) (fun q => absurd q.1 (by decide)))) fun a w hF hM => ?_)
                              refine sB 5 [(56, .tuple #[.int .i64 0, .int .i64 120]), (60, .int .i64 0), (61, .int .i64 120), (7, .int .i64 0), (8, .int .i64 120)] hF (by kernel_rfl) fun a hF => ?_
                              refine wpList_nil ?_
                              refine hK55 _ _ ?_
                              refine wp_seq_k fun K56 hK56 => ?_
                              refine wp_region_lit ?_
                              refine wl (eL 63 17 0 (v := .agg #[.int .i64 1073741825, .int .i64 1]) hF hM (by kernel_rfl) rfl rfl (by kernel_rfl) (by kernel_rfl) fun a w hF hM => ?_)
                              refine wl (eM 64 (v := .tuple #[.int .i64 0, .int .i64 120]) hF hM (by kernel_rfl) (yld_call (f := 26) (args := #[.agg #[.int .i64 1073741825, .int .i64 1]]) hF (by kernel_rfl) (fun _ => by kernel_rfl) (fun w hM => raFloor_no 1073741825 1 w (hT.below (Nat.le_refl _) hM.bel) (by decide))) fun a w hF hM => ?_)
                              refine sB 5 [(62, .tuple #[.int .i64 0, .int .i64 120]), (65, .int .i64 0), (66, .int .i64 120), (9, .int .i64 0), (10, .int .i64 120)] hF (by kernel_rfl) fun a hF => ?_
                              refine wpList_nil ?_
                              refine hK56 _ _ ?_
                              refine wp_seq_k fun K57 hK57 => ?_
                              refine rF (by kernel_rfl) (by kernel_rfl) (fun S a w => ∃ bb20 : Nat, Fr 206 [(0, some (.bool false)), (2, some (.pointer (some ⟨bb17, 0, none⟩))), (4, some (.int .i64 120)), (6, some (.int .i64 120)), (8, some (.int .i64 120)), (10, some (.int .i64 120)), (11, (cond (S.getD 6 false) (some (.pointer (some ⟨bb20, 0, none⟩))) none)), (12, (cond (S.getD 8 false) (some (.int .i64 120)) none)), (40, some (.agg #[.int .i64 0, .int .i64 0, .int .i64 1, .int .i64 0, .int .i64 1, .int .i64 (-1), .int .i64 0, .int .i64 2, .int .i64 1073741825, .int .i64 1, .int .i64 1, .int .i64 1073741825, .int .i64 (-9223372036854775808), .int .i64 1])), (41, some (.int .i64 4)), (67, (cond (S.getD 3 false) (some (.tuple #[.agg #[.int .i64 0, .int .i64 0], .int .i64 120])) none)), (68, (cond (S.getD 0 false) (some (.agg #[.int .i64 1, .int .i64 1])) none)), (69, (cond (S.getD 1 false) (some (.agg #[.int .i64 1073741825, .int .i64 1])) none)), (70, (cond (S.getD 2 false) (some (.tuple #[.agg #[.int .i64 0, .int .i64 0], .int .i64 120])) none)), (71, (cond (S.getD 4 false) (some (.agg #[.int .i64 0, .int .i64 0])) none)), (72, (cond (S.getD 5 false) (some (.int .i64 120)) none))] a ∧ Mem w0.heap.size w0 [(17, some (.row bb17 23 #[.int .i64 1073741825, .int .i64 1])), (20, (cond (S.getD 7 false) (some (.row bb20 23 #[.int .i64 0, .int .i64 0])) (cond (S.getD 6 false) (some (.row bb20 23 #[.int .i64 0, .int .i64 0])) none)))] w) ?_ ?_ ?_
                              · exact ⟨0, (((((((((((((((((Fr.nil hF).co hF (i := 72) (by kernel_rfl)).co hF (i := 71) (by kernel_rfl)).co hF (i := 70) (by kernel_rfl)).co hF (i := 69) (by kernel_rfl)).co hF (i := 68) (by kernel_rfl)).co hF (i := 67) (by kernel_rfl)).co hF (i := 41) (by kernel_rfl)).co hF (i := 40) (by kernel_rfl)).co hF (i := 12) (by kernel_rfl)).co hF (i := 11) (by kernel_rfl)).co hF (i := 10) (by kernel_rfl)).co hF (i := 8) (by kernel_rfl)).co hF (i := 6) (by kernel_rfl)).co hF (i := 4) (by kernel_rfl)).co hF (i := 2) (by kernel_rfl)).co hF (i := 0) (by kernel_rfl)), hM.drew.sub ((Sub.nil.co (k := 20) (by kernel_rfl)).co (k := 17) (by kernel_rfl))⟩
                              · refine stC ?_ (stC ?_ (stC ?_ (stC ?_ (stC ?_ (stC ?_ (stC ?_ (stC ?_ (stC ?_ (trivial)))))))))
                                · intro s0 s1 s2 s3 s4 s5 s6 s7 s8 hc hi hp a w hS
                                  obtain rfl : s0 = false := hi
                                  obtain ⟨bb20, hF, hM⟩ := hS
                                  refine eM 68 (v := .agg #[.int .i64 1, .int .i64 1]) hF hM (by kernel_rfl) (yld_call (f := 28) (args := #[.int .i64 1, .int .i64 1]) hF (by kernel_rfl) (fun _ => by kernel_rfl) (fun w hM => of_w 1 1 w)) fun a w hF hM => ?_
                                  exact ⟨bb20, ((hF.repl 11 (by kernel_rfl)).cast (by kernel_rfl)), (hM.cast (by kernel_rfl))⟩
                                · intro s0 s1 s2 s3 s4 s5 s6 s7 s8 hc hi hp a w hS
                                  obtain rfl : s1 = false := hi
                                  obtain ⟨bb20, hF, hM⟩ := hS
                                  refine eL 69 17 0 (v := .agg #[.int .i64 1073741825, .int .i64 1]) hF hM (by kernel_rfl) rfl rfl (by kernel_rfl) (by kernel_rfl) fun a w hF hM => ?_
                                  exact ⟨bb20, ((hF.repl 12 (by kernel_rfl)).cast (by kernel_rfl)), (hM.cast (by kernel_rfl))⟩
                                · intro s0 s1 s2 s3 s4 s5 s6 s7 s8 hc hi hp a w hS
                                  obtain rfl : s2 = false := hi
                                  obtain rfl : s1 = true := hp 1 (by kernel_rfl)
                                  obtain rfl : s0 = true := hp 0 (by kernel_rfl)
                                  obtain ⟨bb20, hF, hM⟩ := hS
                                  refine eM 70 (v := .tuple #[.agg #[.int .i64 0, .int .i64 0], .int .i64 120]) hF hM (by kernel_rfl) (yld_call (f := 29) (args := #[.agg #[.int .i64 1, .int .i64 1], .agg #[.int .i64 1073741825, .int .i64 1]]) hF (by kernel_rfl) (fun _ => by kernel_rfl) (fun w hM => raMax_no 1 1 1073741825 1 w (hT.below (Nat.le_refl _) hM.bel) (fun q => absurd q.2 (by decide)))) fun a w hF hM => ?_
                                  exact ⟨bb20, ((hF.repl 13 (by kernel_rfl)).cast (by kernel_rfl)), (hM.cast (by kernel_rfl))⟩
                                · intro s0 s1 s2 s3 s4 s5 s6 s7 s8 hc hi hp a w hS
                                  obtain rfl : s3 = false := hi
                                  obtain rfl : s2 = true := hp 2 (by kernel_rfl)
                                  obtain ⟨bb20, hF, hM⟩ := hS
                                  refine eP 67 (v0 := .tuple #[.agg #[.int .i64 0, .int .i64 0], .int .i64 120]) (v := .tuple #[.agg #[.int .i64 0, .int .i64 0], .int .i64 120]) hF (by kernel_rfl) (fun _ => by kernel_rfl) rfl fun a hF => ?_
                                  exact ⟨bb20, ((hF.repl 10 (by kernel_rfl)).cast (by kernel_rfl)), (hM.cast (by kernel_rfl))⟩
                                · intro s0 s1 s2 s3 s4 s5 s6 s7 s8 hc hi hp a w hS
                                  obtain rfl : s4 = false := hi
                                  obtain rfl : s3 = true := hp 3 (by kernel_rfl)
                                  obtain ⟨bb20, hF, hM⟩ := hS
                                  refine eP 71 (v0 := .agg #[.int .i64 0, .int .i64 0]) (v := .agg #[.int .i64 0, .int .i64 0]) hF (by kernel_rfl) (fun _ => by kernel_rfl) rfl fun a hF => ?_
                                  exact ⟨bb20, ((hF.repl 14 (by kernel_rfl)).cast (by kernel_rfl)), (hM.cast (by kernel_rfl))⟩
                                · intro s0 s1 s2 s3 s4 s5 s6 s7 s8 hc hi hp a w hS
                                  obtain rfl : s5 = false := hi
                                  obtain rfl : s3 = true := hp 3 (by kernel_rfl)
                                  obtain ⟨bb20, hF, hM⟩ := hS
                                  refine eP 72 (v0 := .int .i64 120) (v := .int .i64 120) hF (by kernel_rfl) (fun _ => by kernel_rfl) rfl fun a hF => ?_
                                  exact ⟨bb20, ((hF.repl 15 (by kernel_rfl)).cast (by kernel_rfl)), (hM.cast (by kernel_rfl))⟩
                                · intro s0 s1 s2 s3 s4 s5 s6 s7 s8 hc hi hp a w hS
                                  obtain rfl : s6 = false := hi
                                  obtain rfl : s7 = false := hc.f 7 6 (by kernel_rfl) rfl
                                  obtain ⟨bb20, hF, hM⟩ := hS
                                  refine eN 11 20 (t := 23) (fun b => .pointer (some ⟨b, 0, none⟩)) #[.int .i64 0, .int .i64 0] hF hM (by kernel_rfl) (fun _ => by kernel_rfl) fun bb20 a w hF hM => ?_
                                  exact ⟨bb20, ((hF.repl 6 (by kernel_rfl)).cast (by kernel_rfl)), ((hM.repl 1 (by kernel_rfl)).cast (by kernel_rfl))⟩
                                · intro s0 s1 s2 s3 s4 s5 s6 s7 s8 hc hi hp a w hS
                                  obtain rfl : s7 = false := hi
                                  obtain rfl : s6 = true := hp 6 (by kernel_rfl)
                                  obtain rfl : s4 = true := hp 4 (by kernel_rfl)
                                  obtain ⟨bb20, hF, hM⟩ := hS
                                  refine sStore (i := 20) (off := 0) (cs' := #[.int .i64 0, .int .i64 0]) hF hM (by kernel_rfl) rfl rfl (by kernel_rfl) (by kernel_rfl) rfl (by kernel_rfl) fun w hM => ?_
                                  exact ⟨bb20, (hF.cast (by kernel_rfl)), ((hM.repl 1 (by kernel_rfl)).cast (by kernel_rfl))⟩
                                · intro s0 s1 s2 s3 s4 s5 s6 s7 s8 hc hi hp a w hS
                                  obtain rfl : s8 = false := hi
                                  obtain rfl : s5 = true := hp 5 (by kernel_rfl)
                                  obtain ⟨bb20, hF, hM⟩ := hS
                                  refine eP 12 (v0 := .int .i64 120) (v := .int .i64 120) hF (by kernel_rfl) (fun _ => by kernel_rfl) rfl fun a hF => ?_
                                  exact ⟨bb20, ((hF.repl 7 (by kernel_rfl)).cast (by kernel_rfl)), (hM.cast (by kernel_rfl))⟩
                              · intro a w hS
                                obtain ⟨bb20, hF, hM⟩ := hS
                                replace hF : Fr 206 [(0, some (.bool false)), (2, some (.pointer (some ⟨bb17, 0, none⟩))), (4, some (.int .i64 120)), (6, some (.int .i64 120)), (8, some (.int .i64 120)), (10, some (.int .i64 120)), (11, some (.pointer (some ⟨bb20, 0, none⟩))), (12, some (.int .i64 120)), (40, some (.agg #[.int .i64 0, .int .i64 0, .int .i64 1, .int .i64 0, .int .i64 1, .int .i64 (-1), .int .i64 0, .int .i64 2, .int .i64 1073741825, .int .i64 1, .int .i64 1, .int .i64 1073741825, .int .i64 (-9223372036854775808), .int .i64 1])), (41, some (.int .i64 4)), (67, some (.tuple #[.agg #[.int .i64 0, .int .i64 0], .int .i64 120])), (68, some (.agg #[.int .i64 1, .int .i64 1])), (69, some (.agg #[.int .i64 1073741825, .int .i64 1])), (70, some (.tuple #[.agg #[.int .i64 0, .int .i64 0], .int .i64 120])), (71, some (.agg #[.int .i64 0, .int .i64 0])), (72, some (.int .i64 120))] a := hF.cast (by kernel_rfl)
                                replace hM : Mem w0.heap.size w0 [(17, some (.row bb17 23 #[.int .i64 1073741825, .int .i64 1])), (20, some (.row bb20 23 #[.int .i64 0, .int .i64 0]))] w := hM.cast (by kernel_rfl)
                                refine hK57 _ _ ?_
                                refine wp_seq_k fun K58 hK58 => ?_
                                refine wp_region_lit ?_
                                refine wl (eL 73 17 0 (v := .agg #[.int .i64 1073741825, .int .i64 1]) hF hM (by kernel_rfl) rfl rfl (by kernel_rfl) (by kernel_rfl) fun a w hF hM => ?_)
                                refine wl (eM 74 (v := .int .i64 120) hF hM (by kernel_rfl) (Yld.to (yld_call (f := 12) (args := #[.agg #[.int .i64 1073741825, .int .i64 1]]) hF (by kernel_rfl) (fun _ => by kernel_rfl) (fun w hM => raCheck_w 1073741825 1 w (hT.below (Nat.le_refl _) hM.bel))) (by kernel_rfl)) fun a w hF hM => ?_)
                                refine wl (eP 75 (v0 := .bool (!decide (120 = 120))) (v := .bool false) hF (by kernel_rfl) (fun _ => by kernel_rfl) (nT (by omega)) fun a hF => ?_)
                                refine sB 2 [(76, .bool false), (77, .int .i64 120)] hF (by kernel_rfl) fun a hF => ?_
                                refine wl (eP 78 (v0 := .bool (!decide (120 = 120))) (v := .bool false) hF (by kernel_rfl) (fun _ => by kernel_rfl) (nT (by omega)) fun a hF => ?_)
                                refine sB 3 [(79, .bool false), (80, .bool false), (81, .int .i64 120)] hF (by kernel_rfl) fun a hF => ?_
                                refine wl (eP 82 (v0 := .bool (!decide (120 = 120))) (v := .bool false) hF (by kernel_rfl) (fun _ => by kernel_rfl) (nT (by omega)) fun a hF => ?_)
                                refine sB 3 [(83, .bool false), (84, .bool false), (85, .int .i64 120)] hF (by kernel_rfl) fun a hF => ?_
                                refine wl (eP 86 (v0 := .bool (!decide (120 = 120))) (v := .bool false) hF (by kernel_rfl) (fun _ => by kernel_rfl) (nT (by omega)) fun a hF => ?_)
                                refine sB 3 [(87, .bool false), (88, .bool false), (89, .int .i64 120)] hF (by kernel_rfl) fun a hF => ?_
                                refine wl (eP 90 (v0 := .bool (!decide (120 = 120))) (v := .bool false) hF (by kernel_rfl) (fun _ => by kernel_rfl) (nT (by omega)) fun a hF => ?_)
                                refine sB 3 [(91, .bool false), (92, .bool false), (93, .int .i64 120)] hF (by kernel_rfl) fun a hF => ?_
                                refine wl (eP 94 (v0 := .bool (!decide (120 = 120))) (v := .bool false) hF (by kernel_rfl) (fun _ => by kernel_rfl) (nT (by omega)) fun a hF => ?_)
                                refine sB 1 [(95, .bool false)] hF (by kernel_rfl) fun a hF => ?_
                                refine wpList_nil ?_
                                refine hK58 _ _ ?_
                                refine cF hF (by kernel_rfl) (by kernel_rfl) ?_
                                refine wp_skip ?_
                                refine hK51 _ _ ?_
                                refine wp_region_lit ?_
                                refine wl (eP 96 (v0 := .int .i64 (IntKind.i64.wrap (4 + 1))) (v := .int .i64 5) hF (by kernel_rfl) (fun _ => by kernel_rfl) (vi (by decide)) fun a hF => ?_)
                                refine sB 1 [(41, .int .i64 5)] hF (by kernel_rfl) fun a hF => ?_
                                refine wpList_nil ?_
                                refine hK48 _ _ ?_
                                refine rounds_k fun K59 hK59 => ?_
                                refine wp_seq_k fun K60 hK60 => ?_
                                refine wp_region_lit ?_
                                refine wl (eP 42 (v0 := .bool (decide (5 < 7))) (v := .bool true) hF (by kernel_rfl) (fun _ => by kernel_rfl) (bT (by omega)) fun a hF => ?_)
                                refine wpList_nil ?_
                                refine hK60 _ _ ?_
                                refine wp_seq_k fun K61 hK61 => ?_
                                refine cT hF (by kernel_rfl) (by kernel_rfl) ?_
                                refine wp_skip ?_
                                refine hK61 _ _ ?_
                                refine wp_seq_k fun K62 hK62 => ?_
                                refine wp_block ?_
                                refine wp_seq_k fun K63 hK63 => ?_
                                refine wp_region_lit ?_
                                refine sB 1 [(43, .agg #[.int .i64 1, .int .i64 1073741825])] hF (by kernel_rfl) fun a hF => ?_
                                refine wl (eN 2 21 (t := 23) (fun b => .pointer (some ⟨b, 0, none⟩)) #[.int .i64 0, .int .i64 0] hF hM (by kernel_rfl) (fun _ => by kernel_rfl) fun bb21 a w hF hM => ?_)
                                refine wl (sStore (i := 21) (off := 0) (cs' := #[.int .i64 1, .int .i64 1073741825]) hF hM (by kernel_rfl) rfl rfl (by kernel_rfl) (by kernel_rfl) rfl (by kernel_rfl) fun w hM => ?_)
                                refine wpList_nil ?_
                                refine hK63 _ _ ?_
                                refine wp_seq_k fun K64 hK64 => ?_
                                refine rF (by kernel_rfl) (by kernel_rfl) (fun S a w => ∃ bb22 : Nat, Fr 206 [(0, some (.bool false)), (2, some (.pointer (some ⟨bb21, 0, none⟩))), (3, (cond (S.getD 6 false) (some (.pointer (some ⟨bb22, 0, none⟩))) none)), (4, (cond (S.getD 8 false) (some (.int .i64 120)) (some (.int .i64 120)))), (40, some (.agg #[.int .i64 0, .int .i64 0, .int .i64 1, .int .i64 0, .int .i64 1, .int .i64 (-1), .int .i64 0, .int .i64 2, .int .i64 1073741825, .int .i64 1, .int .i64 1, .int .i64 1073741825, .int .i64 (-9223372036854775808), .int .i64 1])), (41, some (.int .i64 5)), (44, (cond (S.getD 3 false) (some (.tuple #[.agg #[.int .i64 0, .int .i64 0], .int .i64 120])) none)), (45, (cond (S.getD 0 false) (some (.agg #[.int .i64 1, .int .i64 1073741825])) none)), (46, (cond (S.getD 1 false) (some (.agg #[.int .i64 1, .int .i64 1])) none)), (47, (cond (S.getD 2 false) (some (.tuple #[.agg #[.int .i64 0, .int .i64 0], .int .i64 120])) none)), (48, (cond (S.getD 4 false) (some (.agg #[.int .i64 0, .int .i64 0])) none)), (49, (cond (S.getD 5 false) (some (.int .i64 120)) none))] a ∧ Mem w0.heap.size w0 [(21, some (.row bb21 23 #[.int .i64 1, .int .i64 1073741825])), (22, (cond (S.getD 7 false) (some (.row bb22 23 #[.int .i64 0, .int .i64 0])) (cond (S.getD 6 false) (some (.row bb22 23 #[.int .i64 0, .int .i64 0])) none)))] w) ?_ ?_ ?_
                                · exact ⟨0, (((((((((((((Fr.nil hF).co hF (i := 49) (by kernel_rfl)).co hF (i := 48) (by kernel_rfl)).co hF (i := 47) (by kernel_rfl)).co hF (i := 46) (by kernel_rfl)).co hF (i := 45) (by kernel_rfl)).co hF (i := 44) (by kernel_rfl)).co hF (i := 41) (by kernel_rfl)).co hF (i := 40) (by kernel_rfl)).co hF (i := 4) (by kernel_rfl)).co hF (i := 3) (by kernel_rfl)).co hF (i := 2) (by kernel_rfl)).co hF (i := 0) (by kernel_rfl)), hM.drew.sub ((Sub.nil.co (k := 22) (by kernel_rfl)).co (k := 21) (by kernel_rfl))⟩
                                · refine stC ?_ (stC ?_ (stC ?_ (stC ?_ (stC ?_ (stC ?_ (stC ?_ (stC ?_ (stC ?_ (trivial)))))))))
                                  · intro s0 s1 s2 s3 s4 s5 s6 s7 s8 hc hi hp a w hS
                                    obtain rfl : s0 = false := hi
                                    obtain ⟨bb22, hF, hM⟩ := hS
                                    refine eL 45 21 0 (v := .agg #[.int .i64 1, .int .i64 1073741825]) hF hM (by kernel_rfl) rfl rfl (by kernel_rfl) (by kernel_rfl) fun a w hF hM => ?_
                                    exact ⟨bb22, ((hF.repl 7 (by kernel_rfl)).cast (by kernel_rfl)), (hM.cast (by kernel_rfl))⟩
                                  · intro s0 s1 s2 s3 s4 s5 s6 s7 s8 hc hi hp a w hS
                                    obtain rfl : s1 = false := hi
                                    obtain ⟨bb22, hF, hM⟩ := hS
                                    refine eM 46 (v := .agg #[.int .i64 1, .int .i64 1]) hF hM (by kernel_rfl) (yld_call (f := 28) (args := #[.int .i64 1, .int .i64 1]) hF (by kernel_rfl) (fun _ => by kernel_rfl) (fun w hM => of_w 1 1 w)) fun a w hF hM => ?_
                                    exact ⟨bb22, ((hF.repl 8 (by kernel_rfl)).cast (by kernel_rfl)), (hM.cast (by kernel_rfl))⟩
                                  · intro s0 s1 s2 s3 s4 s5 s6 s7 s8 hc hi hp a w hS
                                    obtain rfl : s2 = false := hi
                                    obtain rfl : s1 = true := hp 1 (by kernel_rfl)
                                    obtain rfl : s0 = true := hp 0 (by kernel_rfl)
                                    obtain ⟨bb22, hF, hM⟩ := hS
                                    refine eM 47 (v := .tuple #[.agg #[.int .i64 0, .int .i64 0], .int .i64 120]) hF hM (by kernel_rfl) (yld_call (f := 16) (args := #[.agg #[.int .i64 1, .int .i64 1073741825], .agg #[.int .i64 1, .int .i64 1]]) hF (by kernel_rfl) (fun _ => by kernel_rfl) (fun w hM => raAdd_no 1 1073741825 1 1 w (hT.below (Nat.le_refl _) hM.bel) (fun q => absurd q.1 (by decide)))) fun a w hF hM => ?_
                                    exact ⟨bb22, ((hF.repl 9 (by kernel_rfl)).cast (by kernel_rfl)), (hM.cast (by kernel_rfl))⟩
                                  · intro s0 s1 s2 s3 s4 s5 s6 s7 s8 hc hi hp a w hS
                                    obtain rfl : s3 = false := hi
                                    obtain rfl : s2 = true := hp 2 (by kernel_rfl)
                                    obtain ⟨bb22, hF, hM⟩ := hS
                                    refine eP 44 (v0 := .tuple #[.agg #[.int .i64 0, .int .i64 0], .int .i64 120]) (v := .tuple #[.agg #[.int .i64 0, .int .i64 0], .int .i64 120]) hF (by kernel_rfl) (fun _ => by kernel_rfl) rfl fun a hF => ?_
                                    exact ⟨bb22, ((hF.repl 6 (by kernel_rfl)).cast (by kernel_rfl)), (hM.cast (by kernel_rfl))⟩
                                  · intro s0 s1 s2 s3 s4 s5 s6 s7 s8 hc hi hp a w hS
                                    obtain rfl : s4 = false := hi
                                    obtain rfl : s3 = true := hp 3 (by kernel_rfl)
                                    obtain ⟨bb22, hF, hM⟩ := hS
                                    refine eP 48 (v0 := .agg #[.int .i64 0, .int .i64 0]) (v := .agg #[.int .i64 0, .int .i64 0]) hF (by kernel_rfl) (fun _ => by kernel_rfl) rfl fun a hF => ?_
                                    exact ⟨bb22, ((hF.repl 10 (by kernel_rfl)).cast (by kernel_rfl)), (hM.cast (by kernel_rfl))⟩
                                  · intro s0 s1 s2 s3 s4 s5 s6 s7 s8 hc hi hp a w hS
                                    obtain rfl : s5 = false := hi
                                    obtain rfl : s3 = true := hp 3 (by kernel_rfl)
                                    obtain ⟨bb22, hF, hM⟩ := hS
                                    refine eP 49 (v0 := .int .i64 120) (v := .int .i64 120) hF (by kernel_rfl) (fun _ => by kernel_rfl) rfl fun a hF => ?_
                                    exact ⟨bb22, ((hF.repl 11 (by kernel_rfl)).cast (by kernel_rfl)), (hM.cast (by kernel_rfl))⟩
                                  · intro s0 s1 s2 s3 s4 s5 s6 s7 s8 hc hi hp a w hS
                                    obtain rfl : s6 = false := hi
                                    obtain rfl : s7 = false := hc.f 7 6 (by kernel_rfl) rfl
                                    obtain ⟨bb22, hF, hM⟩ := hS
                                    refine eN 3 22 (t := 23) (fun b => .pointer (some ⟨b, 0, none⟩)) #[.int .i64 0, .int .i64 0] hF hM (by kernel_rfl) (fun _ => by kernel_rfl) fun bb22 a w hF hM => ?_
                                    exact ⟨bb22, ((hF.repl 2 (by kernel_rfl)).cast (by kernel_rfl)), ((hM.repl 1 (by kernel_rfl)).cast (by kernel_rfl))⟩
                                  · intro s0 s1 s2 s3 s4 s5 s6 s7 s8 hc hi hp a w hS
                                    obtain rfl : s7 = false := hi
                                    obtain rfl : s6 = true := hp 6 (by kernel_rfl)
                                    obtain rfl : s4 = true := hp 4 (by kernel_rfl)
                                    obtain ⟨bb22, hF, hM⟩ := hS
                                    refine sStore (i := 22) (off := 0) (cs' := #[.int .i64 0, .int .i64 0]) hF hM (by kernel_rfl) rfl rfl (by kernel_rfl) (by kernel_rfl) rfl (by kernel_rfl) fun w hM => ?_
                                    exact ⟨bb22, (hF.cast (by kernel_rfl)), ((hM.repl 1 (by kernel_rfl)).cast (by kernel_rfl))⟩
                                  · intro s0 s1 s2 s3 s4 s5 s6 s7 s8 hc hi hp a w hS
                                    obtain rfl : s8 = false := hi
                                    obtain rfl : s5 = true := hp 5 (by kernel_rfl)
                                    obtain ⟨bb22, hF, hM⟩ := hS
                                    refine eP 4 (v0 := .int .i64 120) (v := .int .i64 120) hF (by kernel_rfl) (fun _ => by kernel_rfl) rfl fun a hF => ?_
                                    exact ⟨bb22, ((hF.repl 3 (by kernel_rfl)).cast (by kernel_rfl)), (hM.cast (by kernel_rfl))⟩
                                · intro a w hS
                                  obtain ⟨bb22, hF, hM⟩ := hS
                                  replace hF : Fr 206 [(0, some (.bool false)), (2, some (.pointer (some ⟨bb21, 0, none⟩))), (3, some (.pointer (some ⟨bb22, 0, none⟩))), (4, some (.int .i64 120)), (40, some (.agg #[.int .i64 0, .int .i64 0, .int .i64 1, .int .i64 0, .int .i64 1, .int .i64 (-1), .int .i64 0, .int .i64 2, .int .i64 1073741825, .int .i64 1, .int .i64 1, .int .i64 1073741825, .int .i64 (-9223372036854775808), .int .i64 1])), (41, some (.int .i64 5)), (44, some (.tuple #[.agg #[.int .i64 0, .int .i64 0], .int .i64 120])), (45, some (.agg #[.int .i64 1, .int .i64 1073741825])), (46, some (.agg #[.int .i64 1, .int .i64 1])), (47, some (.tuple #[.agg #[.int .i64 0, .int .i64 0], .int .i64 120])), (48, some (.agg #[.int .i64 0, .int .i64 0])), (49, some (.int .i64 120))] a := hF.cast (by kernel_rfl)
                                  replace hM : Mem w0.heap.size w0 [(21, some (.row bb21 23 #[.int .i64 1, .int .i64 1073741825])), (22, some (.row bb22 23 #[.int .i64 0, .int .i64 0]))] w := hM.cast (by kernel_rfl)
                                  refine hK64 _ _ ?_
                                  refine wp_seq_k fun K65 hK65 => ?_
                                  refine rF (by kernel_rfl) (by kernel_rfl) (fun S a w => ∃ bb23 : Nat, Fr 206 [(0, some (.bool false)), (2, some (.pointer (some ⟨bb21, 0, none⟩))), (4, some (.int .i64 120)), (5, (cond (S.getD 6 false) (some (.pointer (some ⟨bb23, 0, none⟩))) none)), (6, (cond (S.getD 8 false) (some (.int .i64 120)) none)), (40, some (.agg #[.int .i64 0, .int .i64 0, .int .i64 1, .int .i64 0, .int .i64 1, .int .i64 (-1), .int .i64 0, .int .i64 2, .int .i64 1073741825, .int .i64 1, .int .i64 1, .int .i64 1073741825, .int .i64 (-9223372036854775808), .int .i64 1])), (41, some (.int .i64 5)), (50, (cond (S.getD 3 false) (some (.tuple #[.agg #[.int .i64 0, .int .i64 0], .int .i64 120])) none)), (51, (cond (S.getD 0 false) (some (.agg #[.int .i64 1, .int .i64 1])) none)), (52, (cond (S.getD 1 false) (some (.agg #[.int .i64 1, .int .i64 1073741825])) none)), (53, (cond (S.getD 2 false) (some (.tuple #[.agg #[.int .i64 0, .int .i64 0], .int .i64 120])) none)), (54, (cond (S.getD 4 false) (some (.agg #[.int .i64 0, .int .i64 0])) none)), (55, (cond (S.getD 5 false) (some (.int .i64 120)) none))] a ∧ Mem w0.heap.size w0 [(21, some (.row bb21 23 #[.int .i64 1, .int .i64 1073741825])), (23, (cond (S.getD 7 false) (some (.row bb23 23 #[.int .i64 0, .int .i64 0])) (cond (S.getD 6 false) (some (.row bb23 23 #[.int .i64 0, .int .i64 0])) none)))] w) ?_ ?_ ?_
                                  · exact ⟨0, ((((((((((((((Fr.nil hF).co hF (i := 55) (by kernel_rfl)).co hF (i := 54) (by kernel_rfl)).co hF (i := 53) (by kernel_rfl)).co hF (i := 52) (by kernel_rfl)).co hF (i := 51) (by kernel_rfl)).co hF (i := 50) (by kernel_rfl)).co hF (i := 41) (by kernel_rfl)).co hF (i := 40) (by kernel_rfl)).co hF (i := 6) (by kernel_rfl)).co hF (i := 5) (by kernel_rfl)).co hF (i := 4) (by kernel_rfl)).co hF (i := 2) (by kernel_rfl)).co hF (i := 0) (by kernel_rfl)), hM.drew.sub ((Sub.nil.co (k := 23) (by kernel_rfl)).co (k := 21) (by kernel_rfl))⟩
                                  · refine stC ?_ (stC ?_ (stC ?_ (stC ?_ (stC ?_ (stC ?_ (stC ?_ (stC ?_ (stC ?_ (trivial)))))))))
                                    · intro s0 s1 s2 s3 s4 s5 s6 s7 s8 hc hi hp a w hS
                                      obtain rfl : s0 = false := hi
                                      obtain ⟨bb23, hF, hM⟩ := hS
                                      refine eM 51 (v := .agg #[.int .i64 1, .int .i64 1]) hF hM (by kernel_rfl) (yld_call (f := 28) (args := #[.int .i64 1, .int .i64 1]) hF (by kernel_rfl) (fun _ => by kernel_rfl) (fun w hM => of_w 1 1 w)) fun a w hF hM => ?_
                                      exact ⟨bb23, ((hF.repl 8 (by kernel_rfl)).cast (by kernel_rfl)), (hM.cast (by kernel_rfl))⟩
                                    · intro s0 s1 s2 s3 s4 s5 s6 s7 s8 hc hi hp a w hS
                                      obtain rfl : s1 = false := hi
                                      obtain ⟨bb23, hF, hM⟩ := hS
                                      refine eL 52 21 0 (v := .agg #[.int .i64 1, .int .i64 1073741825]) hF hM (by kernel_rfl) rfl rfl (by kernel_rfl) (by kernel_rfl) fun a w hF hM => ?_
                                      exact ⟨bb23, ((hF.repl 9 (by kernel_rfl)).cast (by kernel_rfl)), (hM.cast (by kernel_rfl))⟩
                                    · intro s0 s1 s2 s3 s4 s5 s6 s7 s8 hc hi hp a w hS
                                      obtain rfl : s2 = false := hi
                                      obtain rfl : s1 = true := hp 1 (by kernel_rfl)
                                      obtain rfl : s0 = true := hp 0 (by kernel_rfl)
                                      obtain ⟨bb23, hF, hM⟩ := hS
                                      refine eM 53 (v := .tuple #[.agg #[.int .i64 0, .int .i64 0], .int .i64 120]) hF hM (by kernel_rfl) (yld_call (f := 22) (args := #[.agg #[.int .i64 1, .int .i64 1], .agg #[.int .i64 1, .int .i64 1073741825]]) hF (by kernel_rfl) (fun _ => by kernel_rfl) (fun w hM => raDiv_no 1 1 1 1073741825 w (hT.below (Nat.le_refl _) hM.bel) (fun q => absurd q.2 (by decide)))) fun a w hF hM => ?_
                                      exact ⟨bb23, ((hF.repl 10 (by kernel_rfl)).cast (by kernel_rfl)), (hM.cast (by kernel_rfl))⟩
                                    · intro s0 s1 s2 s3 s4 s5 s6 s7 s8 hc hi hp a w hS
                                      obtain rfl : s3 = false := hi
                                      obtain rfl : s2 = true := hp 2 (by kernel_rfl)
                                      obtain ⟨bb23, hF, hM⟩ := hS
                                      refine eP 50 (v0 := .tuple #[.agg #[.int .i64 0, .int .i64 0], .int .i64 120]) (v := .tuple #[.agg #[.int .i64 0, .int .i64 0], .int .i64 120]) hF (by kernel_rfl) (fun _ => by kernel_rfl) rfl fun a hF => ?_
                                      exact ⟨bb23, ((hF.repl 7 (by kernel_rfl)).cast (by kernel_rfl)), (hM.cast (by kernel_rfl))⟩
                                    · intro s0 s1 s2 s3 s4 s5 s6 s7 s8 hc hi hp a w hS
                                      obtain rfl : s4 = false := hi
                                      obtain rfl : s3 = true := hp 3 (by kernel_rfl)
                                      obtain ⟨bb23, hF, hM⟩ := hS
                                      refine eP 54 (v0 := .agg #[.int .i64 0, .int .i64 0]) (v := .agg #[.int .i64 0, .int .i64 0]) hF (by kernel_rfl) (fun _ => by kernel_rfl) rfl fun a hF => ?_
                                      exact ⟨bb23, ((hF.repl 11 (by kernel_rfl)).cast (by kernel_rfl)), (hM.cast (by kernel_rfl))⟩
                                    · intro s0 s1 s2 s3 s4 s5 s6 s7 s8 hc hi hp a w hS
                                      obtain rfl : s5 = false := hi
                                      obtain rfl : s3 = true := hp 3 (by kernel_rfl)
                                      obtain ⟨bb23, hF, hM⟩ := hS
                                      refine eP 55 (v0 := .int .i64 120) (v := .int .i64 120) hF (by kernel_rfl) (fun _ => by kernel_rfl) rfl fun a hF => ?_
                                      exact ⟨bb23, ((hF.repl 12 (by kernel_rfl)).cast (by kernel_rfl)), (hM.cast (by kernel_rfl))⟩
                                    · intro s0 s1 s2 s3 s4 s5 s6 s7 s8 hc hi hp a w hS
                                      obtain rfl : s6 = false := hi
                                      obtain rfl : s7 = false := hc.f 7 6 (by kernel_rfl) rfl
                                      obtain ⟨bb23, hF, hM⟩ := hS
                                      refine eN 5 23 (t := 23) (fun b => .pointer (some ⟨b, 0, none⟩)) #[.int .i64 0, .int .i64 0] hF hM (by kernel_rfl) (fun _ => by kernel_rfl) fun bb23 a w hF hM => ?_
                                      exact ⟨bb23, ((hF.repl 3 (by kernel_rfl)).cast (by kernel_rfl)), ((hM.repl 1 (by kernel_rfl)).cast (by kernel_rfl))⟩
                                    · intro s0 s1 s2 s3 s4 s5 s6 s7 s8 hc hi hp a w hS
                                      obtain rfl : s7 = false := hi
                                      obtain rfl : s6 = true := hp 6 (by kernel_rfl)
                                      obtain rfl : s4 = true := hp 4 (by kernel_rfl)
                                      obtain ⟨bb23, hF, hM⟩ := hS
                                      refine sStore (i := 23) (off := 0) (cs' := #[.int .i64 0, .int .i64 0]) hF hM (by kernel_rfl) rfl rfl (by kernel_rfl) (by kernel_rfl) rfl (by kernel_rfl) fun w hM => ?_
                                      exact ⟨bb23, (hF.cast (by kernel_rfl)), ((hM.repl 1 (by kernel_rfl)).cast (by kernel_rfl))⟩
                                    · intro s0 s1 s2 s3 s4 s5 s6 s7 s8 hc hi hp a w hS
                                      obtain rfl : s8 = false := hi
                                      obtain rfl : s5 = true := hp 5 (by kernel_rfl)
                                      obtain ⟨bb23, hF, hM⟩ := hS
                                      refine eP 6 (v0 := .int .i64 120) (v := .int .i64 120) hF (by kernel_rfl) (fun _ => by kernel_rfl) rfl fun a hF => ?_
                                      exact ⟨bb23, ((hF.repl 4 (by kernel_rfl)).cast (by kernel_rfl)), (hM.cast (by kernel_rfl))⟩
                                  · intro a w hS
                                    obtain ⟨bb23, hF, hM⟩ := hS
                                    replace hF : Fr 206 [(0, some (.bool false)), (2, some (.pointer (some ⟨bb21, 0, none⟩))), (4, some (.int .i64 120)), (5, some (.pointer (some ⟨bb23, 0, none⟩))), (6, some (.int .i64 120)), (40, some (.agg #[.int .i64 0, .int .i64 0, .int .i64 1, .int .i64 0, .int .i64 1, .int .i64 (-1), .int .i64 0, .int .i64 2, .int .i64 1073741825, .int .i64 1, .int .i64 1, .int .i64 1073741825, .int .i64 (-9223372036854775808), .int .i64 1])), (41, some (.int .i64 5)), (50, some (.tuple #[.agg #[.int .i64 0, .int .i64 0], .int .i64 120])), (51, some (.agg #[.int .i64 1, .int .i64 1])), (52, some (.agg #[.int .i64 1, .int .i64 1073741825])), (53, some (.tuple #[.agg #[.int .i64 0, .int .i64 0], .int .i64 120])), (54, some (.agg #[.int .i64 0, .int .i64 0])), (55, some (.int .i64 120))] a := hF.cast (by kernel_rfl)
                                    replace hM : Mem w0.heap.size w0 [(21, some (.row bb21 23 #[.int .i64 1, .int .i64 1073741825])), (23, some (.row bb23 23 #[.int .i64 0, .int .i64 0]))] w := hM.cast (by kernel_rfl)
                                    refine hK65 _ _ ?_
                                    refine wp_seq_k fun K66 hK66 => ?_
                                    refine wp_region_lit ?_
                                    refine wl (eL 57 21 0 (v := .agg #[.int .i64 1, .int .i64 1073741825]) hF hM (by kernel_rfl) rfl rfl (by kernel_rfl) (by kernel_rfl) fun a w hF hM => ?_)
                                    refine wl (eL 58 21 0 (v := .agg #[.int .i64 1, .int .i64 1073741825]) hF hM (by kernel_rfl) rfl rfl (by kernel_rfl) (by kernel_rfl) fun a w hF hM => ?_)
                                    refine wl (eM 59 (v := .tuple #[.int .i64 0, .int .i64 120]) hF hM (by kernel_rfl) (yld_call (f := 25) (args := #[.agg #[.int .i64 1, .int .i64 1073741825], .agg #[.int .i64 1, .int .i64 1073741825]]) hF (by kernel_rfl) (fun _ => by kernel_rfl) (fun w hM => raCmp_no 1 1073741825 1 1073741825 w (hT.below (Nat.le_refl _) hM.bel) (fun q => absurd q.1 (by decide)))) fun a w hF hM => ?_)
                                    refine sB 5 [(56, .tuple #[.int .i64 0, .int .i64 120]), (60, .int .i64 0), (61, .int .i64 120), (7, .int .i64 0), (8, .int .i64 120)] hF (by kernel_rfl) fun a hF => ?_
                                    refine wpList_nil ?_
                                    refine hK66 _ _ ?_
                                    refine wp_seq_k fun K67 hK67 => ?_
                                    refine wp_region_lit ?_
                                    refine wl (eL 63 21 0 (v := .agg #[.int .i64 1, .int .i64 1073741825]) hF hM (by kernel_rfl) rfl rfl (by kernel_rfl) (by kernel_rfl) fun a w hF hM => ?_)
                                    refine wl (eM 64 (v := .tuple #[.int .i64 0, .int .i64 120]) hF hM (by kernel_rfl) (yld_call (f := 26) (args := #[.agg #[.int .i64 1, .int .i64 1073741825]]) hF (by kernel_rfl) (fun _ => by kernel_rfl) (fun w hM => raFloor_no 1 1073741825 w (hT.below (Nat.le_refl _) hM.bel) (by decide))) fun a w hF hM => ?_)
                                    refine sB 5 [(62, .tuple #[.int .i64 0, .int .i64 120]), (65, .int .i64 0), (66, .int .i64 120), (9, .int .i64 0), (10, .int .i64 120)] hF (by kernel_rfl) fun a hF => ?_
                                    refine wpList_nil ?_
                                    refine hK67 _ _ ?_
                                    refine wp_seq_k fun K68 hK68 => ?_
                                    refine rF (by kernel_rfl) (by kernel_rfl) (fun S a w => ∃ bb24 : Nat, Fr 206 [(0, some (.bool false)), (2, some (.pointer (some ⟨bb21, 0, none⟩))), (4, some (.int .i64 120)), (6, some (.int .i64 120)), (8, some (.int .i64 120)), (10, some (.int .i64 120)), (11, (cond (S.getD 6 false) (some (.pointer (some ⟨bb24, 0, none⟩))) none)), (12, (cond (S.getD 8 false) (some (.int .i64 120)) none)), (40, some (.agg #[.int .i64 0, .int .i64 0, .int .i64 1, .int .i64 0, .int .i64 1, .int .i64 (-1), .int .i64 0, .int .i64 2, .int .i64 1073741825, .int .i64 1, .int .i64 1, .int .i64 1073741825, .int .i64 (-9223372036854775808), .int .i64 1])), (41, some (.int .i64 5)), (67, (cond (S.getD 3 false) (some (.tuple #[.agg #[.int .i64 0, .int .i64 0], .int .i64 120])) none)), (68, (cond (S.getD 0 false) (some (.agg #[.int .i64 1, .int .i64 1])) none)), (69, (cond (S.getD 1 false) (some (.agg #[.int .i64 1, .int .i64 1073741825])) none)), (70, (cond (S.getD 2 false) (some (.tuple #[.agg #[.int .i64 0, .int .i64 0], .int .i64 120])) none)), (71, (cond (S.getD 4 false) (some (.agg #[.int .i64 0, .int .i64 0])) none)), (72, (cond (S.getD 5 false) (some (.int .i64 120)) none))] a ∧ Mem w0.heap.size w0 [(21, some (.row bb21 23 #[.int .i64 1, .int .i64 1073741825])), (24, (cond (S.getD 7 false) (some (.row bb24 23 #[.int .i64 0, .int .i64 0])) (cond (S.getD 6 false) (some (.row bb24 23 #[.int .i64 0, .int .i64 0])) none)))] w) ?_ ?_ ?_
                                    · exact ⟨0, (((((((((((((((((Fr.nil hF).co hF (i := 72) (by kernel_rfl)).co hF (i := 71) (by kernel_rfl)).co hF (i := 70) (by kernel_rfl)).co hF (i := 69) (by kernel_rfl)).co hF (i := 68) (by kernel_rfl)).co hF (i := 67) (by kernel_rfl)).co hF (i := 41) (by kernel_rfl)).co hF (i := 40) (by kernel_rfl)).co hF (i := 12) (by kernel_rfl)).co hF (i := 11) (by kernel_rfl)).co hF (i := 10) (by kernel_rfl)).co hF (i := 8) (by kernel_rfl)).co hF (i := 6) (by kernel_rfl)).co hF (i := 4) (by kernel_rfl)).co hF (i := 2) (by kernel_rfl)).co hF (i := 0) (by kernel_rfl)), hM.drew.sub ((Sub.nil.co (k := 24) (by kernel_rfl)).co (k := 21) (by kernel_rfl))⟩
                                    · refine stC ?_ (stC ?_ (stC ?_ (stC ?_ (stC ?_ (stC ?_ (stC ?_ (stC ?_ (stC ?_ (trivial)))))))))
                                      · intro s0 s1 s2 s3 s4 s5 s6 s7 s8 hc hi hp a w hS
                                        obtain rfl : s0 = false := hi
                                        obtain ⟨bb24, hF, hM⟩ := hS
                                        refine eM 68 (v := .agg #[.int .i64 1, .int .i64 1]) hF hM (by kernel_rfl) (yld_call (f := 28) (args := #[.int .i64 1, .int .i64 1]) hF (by kernel_rfl) (fun _ => by kernel_rfl) (fun w hM => of_w 1 1 w)) fun a w hF hM => ?_
                                        exact ⟨bb24, ((hF.repl 11 (by kernel_rfl)).cast (by kernel_rfl)), (hM.cast (by kernel_rfl))⟩
                                      · intro s0 s1 s2 s3 s4 s5 s6 s7 s8 hc hi hp a w hS
                                        obtain rfl : s1 = false := hi
                                        obtain ⟨bb24, hF, hM⟩ := hS
                                        refine eL 69 21 0 (v := .agg #[.int .i64 1, .int .i64 1073741825]) hF hM (by kernel_rfl) rfl rfl (by kernel_rfl) (by kernel_rfl) fun a w hF hM => ?_
                                        exact ⟨bb24, ((hF.repl 12 (by kernel_rfl)).cast (by kernel_rfl)), (hM.cast (by kernel_rfl))⟩
                                      · intro s0 s1 s2 s3 s4 s5 s6 s7 s8 hc hi hp a w hS
                                        obtain rfl : s2 = false := hi
                                        obtain rfl : s1 = true := hp 1 (by kernel_rfl)
                                        obtain rfl : s0 = true := hp 0 (by kernel_rfl)
                                        obtain ⟨bb24, hF, hM⟩ := hS
                                        refine eM 70 (v := .tuple #[.agg #[.int .i64 0, .int .i64 0], .int .i64 120]) hF hM (by kernel_rfl) (yld_call (f := 29) (args := #[.agg #[.int .i64 1, .int .i64 1], .agg #[.int .i64 1, .int .i64 1073741825]]) hF (by kernel_rfl) (fun _ => by kernel_rfl) (fun w hM => raMax_no 1 1 1 1073741825 w (hT.below (Nat.le_refl _) hM.bel) (fun q => absurd q.2 (by decide)))) fun a w hF hM => ?_
                                        exact ⟨bb24, ((hF.repl 13 (by kernel_rfl)).cast (by kernel_rfl)), (hM.cast (by kernel_rfl))⟩
                                      · intro s0 s1 s2 s3 s4 s5 s6 s7 s8 hc hi hp a w hS
                                        obtain rfl : s3 = false := hi
                                        obtain rfl : s2 = true := hp 2 (by kernel_rfl)
                                        obtain ⟨bb24, hF, hM⟩ := hS
                                        refine eP 67 (v0 := .tuple #[.agg #[.int .i64 0, .int .i64 0], .int .i64 120]) (v := .tuple #[.agg #[.int .i64 0, .int .i64 0], .int .i64 120]) hF (by kernel_rfl) (fun _ => by kernel_rfl) rfl fun a hF => ?_
                                        exact ⟨bb24, ((hF.repl 10 (by kernel_rfl)).cast (by kernel_rfl)), (hM.cast (by kernel_rfl))⟩
                                      · intro s0 s1 s2 s3 s4 s5 s6 s7 s8 hc hi hp a w hS
                                        obtain rfl : s4 = false := hi
                                        obtain rfl : s3 = true := hp 3 (by kernel_rfl)
                                        obtain ⟨bb24, hF, hM⟩ := hS
                                        refine eP 71 (v0 := .agg #[.int .i64 0, .int .i64 0]) (v := .agg #[.int .i64 0, .int .i64 0]) hF (by kernel_rfl) (fun _ => by kernel_rfl) rfl fun a hF => ?_
                                        exact ⟨bb24, ((hF.repl 14 (by kernel_rfl)).cast (by kernel_rfl)), (hM.cast (by kernel_rfl))⟩
                                      · intro s0 s1 s2 s3 s4 s5 s6 s7 s8 hc hi hp a w hS
                                        obtain rfl : s5 = false := hi
                                        obtain rfl : s3 = true := hp 3 (by kernel_rfl)
                                        obtain ⟨bb24, hF, hM⟩ := hS
                                        refine eP 72 (v0 := .int .i64 120) (v := .int .i64 120) hF (by kernel_rfl) (fun _ => by kernel_rfl) rfl fun a hF => ?_
                                        exact ⟨bb24, ((hF.repl 15 (by kernel_rfl)).cast (by kernel_rfl)), (hM.cast (by kernel_rfl))⟩
                                      · intro s0 s1 s2 s3 s4 s5 s6 s7 s8 hc hi hp a w hS
                                        obtain rfl : s6 = false := hi
                                        obtain rfl : s7 = false := hc.f 7 6 (by kernel_rfl) rfl
                                        obtain ⟨bb24, hF, hM⟩ := hS
                                        refine eN 11 24 (t := 23) (fun b => .pointer (some ⟨b, 0, none⟩)) #[.int .i64 0, .int .i64 0] hF hM (by kernel_rfl) (fun _ => by kernel_rfl) fun bb24 a w hF hM => ?_
                                        exact ⟨bb24, ((hF.repl 6 (by kernel_rfl)).cast (by kernel_rfl)), ((hM.repl 1 (by kernel_rfl)).cast (by kernel_rfl))⟩
                                      · intro s0 s1 s2 s3 s4 s5 s6 s7 s8 hc hi hp a w hS
                                        obtain rfl : s7 = false := hi
                                        obtain rfl : s6 = true := hp 6 (by kernel_rfl)
                                        obtain rfl : s4 = true := hp 4 (by kernel_rfl)
                                        obtain ⟨bb24, hF, hM⟩ := hS
                                        refine sStore (i := 24) (off := 0) (cs' := #[.int .i64 0, .int .i64 0]) hF hM (by kernel_rfl) rfl rfl (by kernel_rfl) (by kernel_rfl) rfl (by kernel_rfl) fun w hM => ?_
                                        exact ⟨bb24, (hF.cast (by kernel_rfl)), ((hM.repl 1 (by kernel_rfl)).cast (by kernel_rfl))⟩
                                      · intro s0 s1 s2 s3 s4 s5 s6 s7 s8 hc hi hp a w hS
                                        obtain rfl : s8 = false := hi
                                        obtain rfl : s5 = true := hp 5 (by kernel_rfl)
                                        obtain ⟨bb24, hF, hM⟩ := hS
                                        refine eP 12 (v0 := .int .i64 120) (v := .int .i64 120) hF (by kernel_rfl) (fun _ => by kernel_rfl) rfl fun a hF => ?_
                                        exact ⟨bb24, ((hF.repl 7 (by kernel_rfl)).cast (by kernel_rfl)), (hM.cast (by kernel_rfl))⟩
                                    · intro a w hS
                                      obtain ⟨bb24, hF, hM⟩ := hS
                                      replace hF : Fr 206 [(0, some (.bool false)), (2, some (.pointer (some ⟨bb21, 0, none⟩))), (4, some (.int .i64 120)), (6, some (.int .i64 120)), (8, some (.int .i64 120)), (10, some (.int .i64 120)), (11, some (.pointer (some ⟨bb24, 0, none⟩))), (12, some (.int .i64 120)), (40, some (.agg #[.int .i64 0, .int .i64 0, .int .i64 1, .int .i64 0, .int .i64 1, .int .i64 (-1), .int .i64 0, .int .i64 2, .int .i64 1073741825, .int .i64 1, .int .i64 1, .int .i64 1073741825, .int .i64 (-9223372036854775808), .int .i64 1])), (41, some (.int .i64 5)), (67, some (.tuple #[.agg #[.int .i64 0, .int .i64 0], .int .i64 120])), (68, some (.agg #[.int .i64 1, .int .i64 1])), (69, some (.agg #[.int .i64 1, .int .i64 1073741825])), (70, some (.tuple #[.agg #[.int .i64 0, .int .i64 0], .int .i64 120])), (71, some (.agg #[.int .i64 0, .int .i64 0])), (72, some (.int .i64 120))] a := hF.cast (by kernel_rfl)
                                      replace hM : Mem w0.heap.size w0 [(21, some (.row bb21 23 #[.int .i64 1, .int .i64 1073741825])), (24, some (.row bb24 23 #[.int .i64 0, .int .i64 0]))] w := hM.cast (by kernel_rfl)
                                      refine hK68 _ _ ?_
                                      refine wp_seq_k fun K69 hK69 => ?_
                                      refine wp_region_lit ?_
                                      refine wl (eL 73 21 0 (v := .agg #[.int .i64 1, .int .i64 1073741825]) hF hM (by kernel_rfl) rfl rfl (by kernel_rfl) (by kernel_rfl) fun a w hF hM => ?_)
                                      refine wl (eM 74 (v := .int .i64 120) hF hM (by kernel_rfl) (Yld.to (yld_call (f := 12) (args := #[.agg #[.int .i64 1, .int .i64 1073741825]]) hF (by kernel_rfl) (fun _ => by kernel_rfl) (fun w hM => raCheck_w 1 1073741825 w (hT.below (Nat.le_refl _) hM.bel))) (by kernel_rfl)) fun a w hF hM => ?_)
                                      refine wl (eP 75 (v0 := .bool (!decide (120 = 120))) (v := .bool false) hF (by kernel_rfl) (fun _ => by kernel_rfl) (nT (by omega)) fun a hF => ?_)
                                      refine sB 2 [(76, .bool false), (77, .int .i64 120)] hF (by kernel_rfl) fun a hF => ?_
                                      refine wl (eP 78 (v0 := .bool (!decide (120 = 120))) (v := .bool false) hF (by kernel_rfl) (fun _ => by kernel_rfl) (nT (by omega)) fun a hF => ?_)
                                      refine sB 3 [(79, .bool false), (80, .bool false), (81, .int .i64 120)] hF (by kernel_rfl) fun a hF => ?_
                                      refine wl (eP 82 (v0 := .bool (!decide (120 = 120))) (v := .bool false) hF (by kernel_rfl) (fun _ => by kernel_rfl) (nT (by omega)) fun a hF => ?_)
                                      refine sB 3 [(83, .bool false), (84, .bool false), (85, .int .i64 120)] hF (by kernel_rfl) fun a hF => ?_
                                      refine wl (eP 86 (v0 := .bool (!decide (120 = 120))) (v := .bool false) hF (by kernel_rfl) (fun _ => by kernel_rfl) (nT (by omega)) fun a hF => ?_)
                                      refine sB 3 [(87, .bool false), (88, .bool false), (89, .int .i64 120)] hF (by kernel_rfl) fun a hF => ?_
                                      refine wl (eP 90 (v0 := .bool (!decide (120 = 120))) (v := .bool false) hF (by kernel_rfl) (fun _ => by kernel_rfl) (nT (by omega)) fun a hF => ?_)
                                      refine sB 3 [(91, .bool false), (92, .bool false), (93, .int .i64 120)] hF (by kernel_rfl) fun a hF => ?_
                                      refine wl (eP 94 (v0 := .bool (!decide (120 = 120))) (v := .bool false) hF (by kernel_rfl) (fun _ => by kernel_rfl) (nT (by omega)) fun a hF => ?_)
                                      refine sB 1 [(95, .bool false)] hF (by kernel_rfl) fun a hF => ?_
                                      refine wpList_nil ?_
                                      refine hK69 _ _ ?_
                                      refine cF hF (by kernel_rfl) (by kernel_rfl) ?_
                                      refine wp_skip ?_
                                      refine hK62 _ _ ?_
                                      refine wp_region_lit ?_
                                      refine wl (eP 96 (v0 := .int .i64 (IntKind.i64.wrap (5 + 1))) (v := .int .i64 6) hF (by kernel_rfl) (fun _ => by kernel_rfl) (vi (by decide)) fun a hF => ?_)
                                      refine sB 1 [(41, .int .i64 6)] hF (by kernel_rfl) fun a hF => ?_
                                      refine wpList_nil ?_
                                      refine hK59 _ _ ?_
                                      refine rounds_k fun K70 hK70 => ?_
                                      refine wp_seq_k fun K71 hK71 => ?_
                                      refine wp_region_lit ?_
                                      refine wl (eP 42 (v0 := .bool (decide (6 < 7))) (v := .bool true) hF (by kernel_rfl) (fun _ => by kernel_rfl) (bT (by omega)) fun a hF => ?_)
                                      refine wpList_nil ?_
                                      refine hK71 _ _ ?_
                                      refine wp_seq_k fun K72 hK72 => ?_
                                      refine cT hF (by kernel_rfl) (by kernel_rfl) ?_
                                      refine wp_skip ?_
                                      refine hK72 _ _ ?_
                                      refine wp_seq_k fun K73 hK73 => ?_
                                      refine wp_block ?_
                                      refine wp_seq_k fun K74 hK74 => ?_
                                      refine wp_region_lit ?_
                                      refine sB 1 [(43, .agg #[.int .i64 (-9223372036854775808), .int .i64 1])] hF (by kernel_rfl) fun a hF => ?_
                                      refine wl (eN 2 25 (t := 23) (fun b => .pointer (some ⟨b, 0, none⟩)) #[.int .i64 0, .int .i64 0] hF hM (by kernel_rfl) (fun _ => by kernel_rfl) fun bb25 a w hF hM => ?_)
                                      refine wl (sStore (i := 25) (off := 0) (cs' := #[.int .i64 (-9223372036854775808), .int .i64 1]) hF hM (by kernel_rfl) rfl rfl (by kernel_rfl) (by kernel_rfl) rfl (by kernel_rfl) fun w hM => ?_)
                                      refine wpList_nil ?_
                                      refine hK74 _ _ ?_
                                      refine wp_seq_k fun K75 hK75 => ?_
                                      refine rF (by kernel_rfl) (by kernel_rfl) (fun S a w => ∃ bb26 : Nat, Fr 206 [(0, some (.bool false)), (2, some (.pointer (some ⟨bb25, 0, none⟩))), (3, (cond (S.getD 6 false) (some (.pointer (some ⟨bb26, 0, none⟩))) none)), (4, (cond (S.getD 8 false) (some (.int .i64 120)) (some (.int .i64 120)))), (40, some (.agg #[.int .i64 0, .int .i64 0, .int .i64 1, .int .i64 0, .int .i64 1, .int .i64 (-1), .int .i64 0, .int .i64 2, .int .i64 1073741825, .int .i64 1, .int .i64 1, .int .i64 1073741825, .int .i64 (-9223372036854775808), .int .i64 1])), (41, some (.int .i64 6)), (44, (cond (S.getD 3 false) (some (.tuple #[.agg #[.int .i64 0, .int .i64 0], .int .i64 120])) none)), (45, (cond (S.getD 0 false) (some (.agg #[.int .i64 (-9223372036854775808), .int .i64 1])) none)), (46, (cond (S.getD 1 false) (some (.agg #[.int .i64 1, .int .i64 1])) none)), (47, (cond (S.getD 2 false) (some (.tuple #[.agg #[.int .i64 0, .int .i64 0], .int .i64 120])) none)), (48, (cond (S.getD 4 false) (some (.agg #[.int .i64 0, .int .i64 0])) none)), (49, (cond (S.getD 5 false) (some (.int .i64 120)) none))] a ∧ Mem w0.heap.size w0 [(25, some (.row bb25 23 #[.int .i64 (-9223372036854775808), .int .i64 1])), (26, (cond (S.getD 7 false) (some (.row bb26 23 #[.int .i64 0, .int .i64 0])) (cond (S.getD 6 false) (some (.row bb26 23 #[.int .i64 0, .int .i64 0])) none)))] w) ?_ ?_ ?_
                                      · exact ⟨0, (((((((((((((Fr.nil hF).co hF (i := 49) (by kernel_rfl)).co hF (i := 48) (by kernel_rfl)).co hF (i := 47) (by kernel_rfl)).co hF (i := 46) (by kernel_rfl)).co hF (i := 45) (by kernel_rfl)).co hF (i := 44) (by kernel_rfl)).co hF (i := 41) (by kernel_rfl)).co hF (i := 40) (by kernel_rfl)).co hF (i := 4) (by kernel_rfl)).co hF (i := 3) (by kernel_rfl)).co hF (i := 2) (by kernel_rfl)).co hF (i := 0) (by kernel_rfl)), hM.drew.sub ((Sub.nil.co (k := 26) (by kernel_rfl)).co (k := 25) (by kernel_rfl))⟩
                                      · refine stC ?_ (stC ?_ (stC ?_ (stC ?_ (stC ?_ (stC ?_ (stC ?_ (stC ?_ (stC ?_ (trivial)))))))))
                                        · intro s0 s1 s2 s3 s4 s5 s6 s7 s8 hc hi hp a w hS
                                          obtain rfl : s0 = false := hi
                                          obtain ⟨bb26, hF, hM⟩ := hS
                                          refine eL 45 25 0 (v := .agg #[.int .i64 (-9223372036854775808), .int .i64 1]) hF hM (by kernel_rfl) rfl rfl (by kernel_rfl) (by kernel_rfl) fun a w hF hM => ?_
                                          exact ⟨bb26, ((hF.repl 7 (by kernel_rfl)).cast (by kernel_rfl)), (hM.cast (by kernel_rfl))⟩
                                        · intro s0 s1 s2 s3 s4 s5 s6 s7 s8 hc hi hp a w hS
                                          obtain rfl : s1 = false := hi
                                          obtain ⟨bb26, hF, hM⟩ := hS
                                          refine eM 46 (v := .agg #[.int .i64 1, .int .i64 1]) hF hM (by kernel_rfl) (yld_call (f := 28) (args := #[.int .i64 1, .int .i64 1]) hF (by kernel_rfl) (fun _ => by kernel_rfl) (fun w hM => of_w 1 1 w)) fun a w hF hM => ?_
                                          exact ⟨bb26, ((hF.repl 8 (by kernel_rfl)).cast (by kernel_rfl)), (hM.cast (by kernel_rfl))⟩
                                        · intro s0 s1 s2 s3 s4 s5 s6 s7 s8 hc hi hp a w hS
                                          obtain rfl : s2 = false := hi
                                          obtain rfl : s1 = true := hp 1 (by kernel_rfl)
                                          obtain rfl : s0 = true := hp 0 (by kernel_rfl)
                                          obtain ⟨bb26, hF, hM⟩ := hS
                                          refine eM 47 (v := .tuple #[.agg #[.int .i64 0, .int .i64 0], .int .i64 120]) hF hM (by kernel_rfl) (yld_call (f := 16) (args := #[.agg #[.int .i64 (-9223372036854775808), .int .i64 1], .agg #[.int .i64 1, .int .i64 1]]) hF (by kernel_rfl) (fun _ => by kernel_rfl) (fun w hM => raAdd_no (-9223372036854775808) 1 1 1 w (hT.below (Nat.le_refl _) hM.bel) (fun q => absurd q.1 (by decide)))) fun a w hF hM => ?_
                                          exact ⟨bb26, ((hF.repl 9 (by kernel_rfl)).cast (by kernel_rfl)), (hM.cast (by kernel_rfl))⟩
                                        · intro s0 s1 s2 s3 s4 s5 s6 s7 s8 hc hi hp a w hS
                                          obtain rfl : s3 = false := hi
                                          obtain rfl : s2 = true := hp 2 (by kernel_rfl)
                                          obtain ⟨bb26, hF, hM⟩ := hS
                                          refine eP 44 (v0 := .tuple #[.agg #[.int .i64 0, .int .i64 0], .int .i64 120]) (v := .tuple #[.agg #[.int .i64 0, .int .i64 0], .int .i64 120]) hF (by kernel_rfl) (fun _ => by kernel_rfl) rfl fun a hF => ?_
                                          exact ⟨bb26, ((hF.repl 6 (by kernel_rfl)).cast (by kernel_rfl)), (hM.cast (by kernel_rfl))⟩
                                        · intro s0 s1 s2 s3 s4 s5 s6 s7 s8 hc hi hp a w hS
                                          obtain rfl : s4 = false := hi
                                          obtain rfl : s3 = true := hp 3 (by kernel_rfl)
                                          obtain ⟨bb26, hF, hM⟩ := hS
                                          refine eP 48 (v0 := .agg #[.int .i64 0, .int .i64 0]) (v := .agg #[.int .i64 0, .int .i64 0]) hF (by kernel_rfl) (fun _ => by kernel_rfl) rfl fun a hF => ?_
                                          exact ⟨bb26, ((hF.repl 10 (by kernel_rfl)).cast (by kernel_rfl)), (hM.cast (by kernel_rfl))⟩
                                        · intro s0 s1 s2 s3 s4 s5 s6 s7 s8 hc hi hp a w hS
                                          obtain rfl : s5 = false := hi
                                          obtain rfl : s3 = true := hp 3 (by kernel_rfl)
                                          obtain ⟨bb26, hF, hM⟩ := hS
                                          refine eP 49 (v0 := .int .i64 120) (v := .int .i64 120) hF (by kernel_rfl) (fun _ => by kernel_rfl) rfl fun a hF => ?_
                                          exact ⟨bb26, ((hF.repl 11 (by kernel_rfl)).cast (by kernel_rfl)), (hM.cast (by kernel_rfl))⟩
                                        · intro s0 s1 s2 s3 s4 s5 s6 s7 s8 hc hi hp a w hS
                                          obtain rfl : s6 = false := hi
                                          obtain rfl : s7 = false := hc.f 7 6 (by kernel_rfl) rfl
                                          obtain ⟨bb26, hF, hM⟩ := hS
                                          refine eN 3 26 (t := 23) (fun b => .pointer (some ⟨b, 0, none⟩)) #[.int .i64 0, .int .i64 0] hF hM (by kernel_rfl) (fun _ => by kernel_rfl) fun bb26 a w hF hM => ?_
                                          exact ⟨bb26, ((hF.repl 2 (by kernel_rfl)).cast (by kernel_rfl)), ((hM.repl 1 (by kernel_rfl)).cast (by kernel_rfl))⟩
                                        · intro s0 s1 s2 s3 s4 s5 s6 s7 s8 hc hi hp a w hS
                                          obtain rfl : s7 = false := hi
                                          obtain rfl : s6 = true := hp 6 (by kernel_rfl)
                                          obtain rfl : s4 = true := hp 4 (by kernel_rfl)
                                          obtain ⟨bb26, hF, hM⟩ := hS
                                          refine sStore (i := 26) (off := 0) (cs' := #[.int .i64 0, .int .i64 0]) hF hM (by kernel_rfl) rfl rfl (by kernel_rfl) (by kernel_rfl) rfl (by kernel_rfl) fun w hM => ?_
                                          exact ⟨bb26, (hF.cast (by kernel_rfl)), ((hM.repl 1 (by kernel_rfl)).cast (by kernel_rfl))⟩
                                        · intro s0 s1 s2 s3 s4 s5 s6 s7 s8 hc hi hp a w hS
                                          obtain rfl : s8 = false := hi
                                          obtain rfl : s5 = true := hp 5 (by kernel_rfl)
                                          obtain ⟨bb26, hF, hM⟩ := hS
                                          refine eP 4 (v0 := .int .i64 120) (v := .int .i64 120) hF (by kernel_rfl) (fun _ => by kernel_rfl) rfl fun a hF => ?_
                                          exact ⟨bb26, ((hF.repl 3 (by kernel_rfl)).cast (by kernel_rfl)), (hM.cast (by kernel_rfl))⟩
                                      · intro a w hS
                                        obtain ⟨bb26, hF, hM⟩ := hS
                                        replace hF : Fr 206 [(0, some (.bool false)), (2, some (.pointer (some ⟨bb25, 0, none⟩))), (3, some (.pointer (some ⟨bb26, 0, none⟩))), (4, some (.int .i64 120)), (40, some (.agg #[.int .i64 0, .int .i64 0, .int .i64 1, .int .i64 0, .int .i64 1, .int .i64 (-1), .int .i64 0, .int .i64 2, .int .i64 1073741825, .int .i64 1, .int .i64 1, .int .i64 1073741825, .int .i64 (-9223372036854775808), .int .i64 1])), (41, some (.int .i64 6)), (44, some (.tuple #[.agg #[.int .i64 0, .int .i64 0], .int .i64 120])), (45, some (.agg #[.int .i64 (-9223372036854775808), .int .i64 1])), (46, some (.agg #[.int .i64 1, .int .i64 1])), (47, some (.tuple #[.agg #[.int .i64 0, .int .i64 0], .int .i64 120])), (48, some (.agg #[.int .i64 0, .int .i64 0])), (49, some (.int .i64 120))] a := hF.cast (by kernel_rfl)
                                        replace hM : Mem w0.heap.size w0 [(25, some (.row bb25 23 #[.int .i64 (-9223372036854775808), .int .i64 1])), (26, some (.row bb26 23 #[.int .i64 0, .int .i64 0]))] w := hM.cast (by kernel_rfl)
                                        refine hK75 _ _ ?_
                                        refine wp_seq_k fun K76 hK76 => ?_
                                        refine rF (by kernel_rfl) (by kernel_rfl) (fun S a w => ∃ bb27 : Nat, Fr 206 [(0, some (.bool false)), (2, some (.pointer (some ⟨bb25, 0, none⟩))), (4, some (.int .i64 120)), (5, (cond (S.getD 6 false) (some (.pointer (some ⟨bb27, 0, none⟩))) none)), (6, (cond (S.getD 8 false) (some (.int .i64 120)) none)), (40, some (.agg #[.int .i64 0, .int .i64 0, .int .i64 1, .int .i64 0, .int .i64 1, .int .i64 (-1), .int .i64 0, .int .i64 2, .int .i64 1073741825, .int .i64 1, .int .i64 1, .int .i64 1073741825, .int .i64 (-9223372036854775808), .int .i64 1])), (41, some (.int .i64 6)), (50, (cond (S.getD 3 false) (some (.tuple #[.agg #[.int .i64 0, .int .i64 0], .int .i64 120])) none)), (51, (cond (S.getD 0 false) (some (.agg #[.int .i64 1, .int .i64 1])) none)), (52, (cond (S.getD 1 false) (some (.agg #[.int .i64 (-9223372036854775808), .int .i64 1])) none)), (53, (cond (S.getD 2 false) (some (.tuple #[.agg #[.int .i64 0, .int .i64 0], .int .i64 120])) none)), (54, (cond (S.getD 4 false) (some (.agg #[.int .i64 0, .int .i64 0])) none)), (55, (cond (S.getD 5 false) (some (.int .i64 120)) none))] a ∧ Mem w0.heap.size w0 [(25, some (.row bb25 23 #[.int .i64 (-9223372036854775808), .int .i64 1])), (27, (cond (S.getD 7 false) (some (.row bb27 23 #[.int .i64 0, .int .i64 0])) (cond (S.getD 6 false) (some (.row bb27 23 #[.int .i64 0, .int .i64 0])) none)))] w) ?_ ?_ ?_
                                        · exact ⟨0, ((((((((((((((Fr.nil hF).co hF (i := 55) (by kernel_rfl)).co hF (i := 54) (by kernel_rfl)).co hF (i := 53) (by kernel_rfl)).co hF (i := 52) (by kernel_rfl)).co hF (i := 51) (by kernel_rfl)).co hF (i := 50) (by kernel_rfl)).co hF (i := 41) (by kernel_rfl)).co hF (i := 40) (by kernel_rfl)).co hF (i := 6) (by kernel_rfl)).co hF (i := 5) (by kernel_rfl)).co hF (i := 4) (by kernel_rfl)).co hF (i := 2) (by kernel_rfl)).co hF (i := 0) (by kernel_rfl)), hM.drew.sub ((Sub.nil.co (k := 27) (by kernel_rfl)).co (k := 25) (by kernel_rfl))⟩
                                        · refine stC ?_ (stC ?_ (stC ?_ (stC ?_ (stC ?_ (stC ?_ (stC ?_ (stC ?_ (stC ?_ (trivial)))))))))
                                          · intro s0 s1 s2 s3 s4 s5 s6 s7 s8 hc hi hp a w hS
                                            obtain rfl : s0 = false := hi
                                            obtain ⟨bb27, hF, hM⟩ := hS
                                            refine eM 51 (v := .agg #[.int .i64 1, .int .i64 1]) hF hM (by kernel_rfl) (yld_call (f := 28) (args := #[.int .i64 1, .int .i64 1]) hF (by kernel_rfl) (fun _ => by kernel_rfl) (fun w hM => of_w 1 1 w)) fun a w hF hM => ?_
                                            exact ⟨bb27, ((hF.repl 8 (by kernel_rfl)).cast (by kernel_rfl)), (hM.cast (by kernel_rfl))⟩
                                          · intro s0 s1 s2 s3 s4 s5 s6 s7 s8 hc hi hp a w hS
                                            obtain rfl : s1 = false := hi
                                            obtain ⟨bb27, hF, hM⟩ := hS
                                            refine eL 52 25 0 (v := .agg #[.int .i64 (-9223372036854775808), .int .i64 1]) hF hM (by kernel_rfl) rfl rfl (by kernel_rfl) (by kernel_rfl) fun a w hF hM => ?_
                                            exact ⟨bb27, ((hF.repl 9 (by kernel_rfl)).cast (by kernel_rfl)), (hM.cast (by kernel_rfl))⟩
                                          · intro s0 s1 s2 s3 s4 s5 s6 s7 s8 hc hi hp a w hS
                                            obtain rfl : s2 = false := hi
                                            obtain rfl : s1 = true := hp 1 (by kernel_rfl)
                                            obtain rfl : s0 = true := hp 0 (by kernel_rfl)
                                            obtain ⟨bb27, hF, hM⟩ := hS
                                            refine eM 53 (v := .tuple #[.agg #[.int .i64 0, .int .i64 0], .int .i64 120]) hF hM (by kernel_rfl) (yld_call (f := 22) (args := #[.agg #[.int .i64 1, .int .i64 1], .agg #[.int .i64 (-9223372036854775808), .int .i64 1]]) hF (by kernel_rfl) (fun _ => by kernel_rfl) (fun w hM => raDiv_no 1 1 (-9223372036854775808) 1 w (hT.below (Nat.le_refl _) hM.bel) (fun q => absurd q.2 (by decide)))) fun a w hF hM => ?_
                                            exact ⟨bb27, ((hF.repl 10 (by kernel_rfl)).cast (by kernel_rfl)), (hM.cast (by kernel_rfl))⟩
                                          · intro s0 s1 s2 s3 s4 s5 s6 s7 s8 hc hi hp a w hS
                                            obtain rfl : s3 = false := hi
                                            obtain rfl : s2 = true := hp 2 (by kernel_rfl)
                                            obtain ⟨bb27, hF, hM⟩ := hS
                                            refine eP 50 (v0 := .tuple #[.agg #[.int .i64 0, .int .i64 0], .int .i64 120]) (v := .tuple #[.agg #[.int .i64 0, .int .i64 0], .int .i64 120]) hF (by kernel_rfl) (fun _ => by kernel_rfl) rfl fun a hF => ?_
                                            exact ⟨bb27, ((hF.repl 7 (by kernel_rfl)).cast (by kernel_rfl)), (hM.cast (by kernel_rfl))⟩
                                          · intro s0 s1 s2 s3 s4 s5 s6 s7 s8 hc hi hp a w hS
                                            obtain rfl : s4 = false := hi
                                            obtain rfl : s3 = true := hp 3 (by kernel_rfl)
                                            obtain ⟨bb27, hF, hM⟩ := hS
                                            refine eP 54 (v0 := .agg #[.int .i64 0, .int .i64 0]) (v := .agg #[.int .i64 0, .int .i64 0]) hF (by kernel_rfl) (fun _ => by kernel_rfl) rfl fun a hF => ?_
                                            exact ⟨bb27, ((hF.repl 11 (by kernel_rfl)).cast (by kernel_rfl)), (hM.cast (by kernel_rfl))⟩
                                          · intro s0 s1 s2 s3 s4 s5 s6 s7 s8 hc hi hp a w hS
                                            obtain rfl : s5 = false := hi
                                            obtain rfl : s3 = true := hp 3 (by kernel_rfl)
                                            obtain ⟨bb27, hF, hM⟩ := hS
                                            refine eP 55 (v0 := .int .i64 120) (v := .int .i64 120) hF (by kernel_rfl) (fun _ => by kernel_rfl) rfl fun a hF => ?_
                                            exact ⟨bb27, ((hF.repl 12 (by kernel_rfl)).cast (by kernel_rfl)), (hM.cast (by kernel_rfl))⟩
                                          · intro s0 s1 s2 s3 s4 s5 s6 s7 s8 hc hi hp a w hS
                                            obtain rfl : s6 = false := hi
                                            obtain rfl : s7 = false := hc.f 7 6 (by kernel_rfl) rfl
                                            obtain ⟨bb27, hF, hM⟩ := hS
                                            refine eN 5 27 (t := 23) (fun b => .pointer (some ⟨b, 0, none⟩)) #[.int .i64 0, .int .i64 0] hF hM (by kernel_rfl) (fun _ => by kernel_rfl) fun bb27 a w hF hM => ?_
                                            exact ⟨bb27, ((hF.repl 3 (by kernel_rfl)).cast (by kernel_rfl)), ((hM.repl 1 (by kernel_rfl)).cast (by kernel_rfl))⟩
                                          · intro s0 s1 s2 s3 s4 s5 s6 s7 s8 hc hi hp a w hS
                                            obtain rfl : s7 = false := hi
                                            obtain rfl : s6 = true := hp 6 (by kernel_rfl)
                                            obtain rfl : s4 = true := hp 4 (by kernel_rfl)
                                            obtain ⟨bb27, hF, hM⟩ := hS
                                            refine sStore (i := 27) (off := 0) (cs' := #[.int .i64 0, .int .i64 0]) hF hM (by kernel_rfl) rfl rfl (by kernel_rfl) (by kernel_rfl) rfl (by kernel_rfl) fun w hM => ?_
                                            exact ⟨bb27, (hF.cast (by kernel_rfl)), ((hM.repl 1 (by kernel_rfl)).cast (by kernel_rfl))⟩
                                          · intro s0 s1 s2 s3 s4 s5 s6 s7 s8 hc hi hp a w hS
                                            obtain rfl : s8 = false := hi
                                            obtain rfl : s5 = true := hp 5 (by kernel_rfl)
                                            obtain ⟨bb27, hF, hM⟩ := hS
                                            refine eP 6 (v0 := .int .i64 120) (v := .int .i64 120) hF (by kernel_rfl) (fun _ => by kernel_rfl) rfl fun a hF => ?_
                                            exact ⟨bb27, ((hF.repl 4 (by kernel_rfl)).cast (by kernel_rfl)), (hM.cast (by kernel_rfl))⟩
                                        · intro a w hS
                                          obtain ⟨bb27, hF, hM⟩ := hS
                                          replace hF : Fr 206 [(0, some (.bool false)), (2, some (.pointer (some ⟨bb25, 0, none⟩))), (4, some (.int .i64 120)), (5, some (.pointer (some ⟨bb27, 0, none⟩))), (6, some (.int .i64 120)), (40, some (.agg #[.int .i64 0, .int .i64 0, .int .i64 1, .int .i64 0, .int .i64 1, .int .i64 (-1), .int .i64 0, .int .i64 2, .int .i64 1073741825, .int .i64 1, .int .i64 1, .int .i64 1073741825, .int .i64 (-9223372036854775808), .int .i64 1])), (41, some (.int .i64 6)), (50, some (.tuple #[.agg #[.int .i64 0, .int .i64 0], .int .i64 120])), (51, some (.agg #[.int .i64 1, .int .i64 1])), (52, some (.agg #[.int .i64 (-9223372036854775808), .int .i64 1])), (53, some (.tuple #[.agg #[.int .i64 0, .int .i64 0], .int .i64 120])), (54, some (.agg #[.int .i64 0, .int .i64 0])), (55, some (.int .i64 120))] a := hF.cast (by kernel_rfl)
                                          replace hM : Mem w0.heap.size w0 [(25, some (.row bb25 23 #[.int .i64 (-9223372036854775808), .int .i64 1])), (27, some (.row bb27 23 #[.int .i64 0, .int .i64 0]))] w := hM.cast (by kernel_rfl)
                                          refine hK76 _ _ ?_
                                          refine wp_seq_k fun K77 hK77 => ?_
                                          refine wp_region_lit ?_
                                          refine wl (eL 57 25 0 (v := .agg #[.int .i64 (-9223372036854775808), .int .i64 1]) hF hM (by kernel_rfl) rfl rfl (by kernel_rfl) (by kernel_rfl) fun a w hF hM => ?_)
                                          refine wl (eL 58 25 0 (v := .agg #[.int .i64 (-9223372036854775808), .int .i64 1]) hF hM (by kernel_rfl) rfl rfl (by kernel_rfl) (by kernel_rfl) fun a w hF hM => ?_)
                                          refine wl (eM 59 (v := .tuple #[.int .i64 0, .int .i64 120]) hF hM (by kernel_rfl) (yld_call (f := 25) (args := #[.agg #[.int .i64 (-9223372036854775808), .int .i64 1], .agg #[.int .i64 (-9223372036854775808), .int .i64 1]]) hF (by kernel_rfl) (fun _ => by kernel_rfl) (fun w hM => raCmp_no (-9223372036854775808) 1 (-9223372036854775808) 1 w (hT.below (Nat.le_refl _) hM.bel) (fun q => absurd q.1 (by decide)))) fun a w hF hM => ?_)
                                          refine sB 5 [(56, .tuple #[.int .i64 0, .int .i64 120]), (60, .int .i64 0), (61, .int .i64 120), (7, .int .i64 0), (8, .int .i64 120)] hF (by kernel_rfl) fun a hF => ?_
                                          refine wpList_nil ?_
                                          refine hK77 _ _ ?_
                                          refine wp_seq_k fun K78 hK78 => ?_
                                          refine wp_region_lit ?_
                                          refine wl (eL 63 25 0 (v := .agg #[.int .i64 (-9223372036854775808), .int .i64 1]) hF hM (by kernel_rfl) rfl rfl (by kernel_rfl) (by kernel_rfl) fun a w hF hM => ?_)
                                          refine wl (eM 64 (v := .tuple #[.int .i64 0, .int .i64 120]) hF hM (by kernel_rfl) (yld_call (f := 26) (args := #[.agg #[.int .i64 (-9223372036854775808), .int .i64 1]]) hF (by kernel_rfl) (fun _ => by kernel_rfl) (fun w hM => raFloor_no (-9223372036854775808) 1 w (hT.below (Nat.le_refl _) hM.bel) (by decide))) fun a w hF hM => ?_)
                                          refine sB 5 [(62, .tuple #[.int .i64 0, .int .i64 120]), (65, .int .i64 0), (66, .int .i64 120), (9, .int .i64 0), (10, .int .i64 120)] hF (by kernel_rfl) fun a hF => ?_
                                          refine wpList_nil ?_
                                          refine hK78 _ _ ?_
                                          refine wp_seq_k fun K79 hK79 => ?_
                                          refine rF (by kernel_rfl) (by kernel_rfl) (fun S a w => ∃ bb28 : Nat, Fr 206 [(0, some (.bool false)), (2, some (.pointer (some ⟨bb25, 0, none⟩))), (4, some (.int .i64 120)), (6, some (.int .i64 120)), (8, some (.int .i64 120)), (10, some (.int .i64 120)), (11, (cond (S.getD 6 false) (some (.pointer (some ⟨bb28, 0, none⟩))) none)), (12, (cond (S.getD 8 false) (some (.int .i64 120)) none)), (40, some (.agg #[.int .i64 0, .int .i64 0, .int .i64 1, .int .i64 0, .int .i64 1, .int .i64 (-1), .int .i64 0, .int .i64 2, .int .i64 1073741825, .int .i64 1, .int .i64 1, .int .i64 1073741825, .int .i64 (-9223372036854775808), .int .i64 1])), (41, some (.int .i64 6)), (67, (cond (S.getD 3 false) (some (.tuple #[.agg #[.int .i64 0, .int .i64 0], .int .i64 120])) none)), (68, (cond (S.getD 0 false) (some (.agg #[.int .i64 1, .int .i64 1])) none)), (69, (cond (S.getD 1 false) (some (.agg #[.int .i64 (-9223372036854775808), .int .i64 1])) none)), (70, (cond (S.getD 2 false) (some (.tuple #[.agg #[.int .i64 0, .int .i64 0], .int .i64 120])) none)), (71, (cond (S.getD 4 false) (some (.agg #[.int .i64 0, .int .i64 0])) none)), (72, (cond (S.getD 5 false) (some (.int .i64 120)) none))] a ∧ Mem w0.heap.size w0 [(25, some (.row bb25 23 #[.int .i64 (-9223372036854775808), .int .i64 1])), (28, (cond (S.getD 7 false) (some (.row bb28 23 #[.int .i64 0, .int .i64 0])) (cond (S.getD 6 false) (some (.row bb28 23 #[.int .i64 0, .int .i64 0])) none)))] w) ?_ ?_ ?_
                                          · exact ⟨0, (((((((((((((((((Fr.nil hF).co hF (i := 72) (by kernel_rfl)).co hF (i := 71) (by kernel_rfl)).co hF (i := 70) (by kernel_rfl)).co hF (i := 69) (by kernel_rfl)).co hF (i := 68) (by kernel_rfl)).co hF (i := 67) (by kernel_rfl)).co hF (i := 41) (by kernel_rfl)).co hF (i := 40) (by kernel_rfl)).co hF (i := 12) (by kernel_rfl)).co hF (i := 11) (by kernel_rfl)).co hF (i := 10) (by kernel_rfl)).co hF (i := 8) (by kernel_rfl)).co hF (i := 6) (by kernel_rfl)).co hF (i := 4) (by kernel_rfl)).co hF (i := 2) (by kernel_rfl)).co hF (i := 0) (by kernel_rfl)), hM.drew.sub ((Sub.nil.co (k := 28) (by kernel_rfl)).co (k := 25) (by kernel_rfl))⟩
                                          · refine stC ?_ (stC ?_ (stC ?_ (stC ?_ (stC ?_ (stC ?_ (stC ?_ (stC ?_ (stC ?_ (trivial)))))))))
                                            · intro s0 s1 s2 s3 s4 s5 s6 s7 s8 hc hi hp a w hS
                                              obtain rfl : s0 = false := hi
                                              obtain ⟨bb28, hF, hM⟩ := hS
                                              refine eM 68 (v := .agg #[.int .i64 1, .int .i64 1]) hF hM (by kernel_rfl) (yld_call (f := 28) (args := #[.int .i64 1, .int .i64 1]) hF (by kernel_rfl) (fun _ => by kernel_rfl) (fun w hM => of_w 1 1 w)) fun a w hF hM => ?_
                                              exact ⟨bb28, ((hF.repl 11 (by kernel_rfl)).cast (by kernel_rfl)), (hM.cast (by kernel_rfl))⟩
                                            · intro s0 s1 s2 s3 s4 s5 s6 s7 s8 hc hi hp a w hS
                                              obtain rfl : s1 = false := hi
                                              obtain ⟨bb28, hF, hM⟩ := hS
                                              refine eL 69 25 0 (v := .agg #[.int .i64 (-9223372036854775808), .int .i64 1]) hF hM (by kernel_rfl) rfl rfl (by kernel_rfl) (by kernel_rfl) fun a w hF hM => ?_
                                              exact ⟨bb28, ((hF.repl 12 (by kernel_rfl)).cast (by kernel_rfl)), (hM.cast (by kernel_rfl))⟩
                                            · intro s0 s1 s2 s3 s4 s5 s6 s7 s8 hc hi hp a w hS
                                              obtain rfl : s2 = false := hi
                                              obtain rfl : s1 = true := hp 1 (by kernel_rfl)
                                              obtain rfl : s0 = true := hp 0 (by kernel_rfl)
                                              obtain ⟨bb28, hF, hM⟩ := hS
                                              refine eM 70 (v := .tuple #[.agg #[.int .i64 0, .int .i64 0], .int .i64 120]) hF hM (by kernel_rfl) (yld_call (f := 29) (args := #[.agg #[.int .i64 1, .int .i64 1], .agg #[.int .i64 (-9223372036854775808), .int .i64 1]]) hF (by kernel_rfl) (fun _ => by kernel_rfl) (fun w hM => raMax_no 1 1 (-9223372036854775808) 1 w (hT.below (Nat.le_refl _) hM.bel) (fun q => absurd q.2 (by decide)))) fun a w hF hM => ?_
                                              exact ⟨bb28, ((hF.repl 13 (by kernel_rfl)).cast (by kernel_rfl)), (hM.cast (by kernel_rfl))⟩
                                            · intro s0 s1 s2 s3 s4 s5 s6 s7 s8 hc hi hp a w hS
                                              obtain rfl : s3 = false := hi
                                              obtain rfl : s2 = true := hp 2 (by kernel_rfl)
                                              obtain ⟨bb28, hF, hM⟩ := hS
                                              refine eP 67 (v0 := .tuple #[.agg #[.int .i64 0, .int .i64 0], .int .i64 120]) (v := .tuple #[.agg #[.int .i64 0, .int .i64 0], .int .i64 120]) hF (by kernel_rfl) (fun _ => by kernel_rfl) rfl fun a hF => ?_
                                              exact ⟨bb28, ((hF.repl 10 (by kernel_rfl)).cast (by kernel_rfl)), (hM.cast (by kernel_rfl))⟩
                                            · intro s0 s1 s2 s3 s4 s5 s6 s7 s8 hc hi hp a w hS
                                              obtain rfl : s4 = false := hi
                                              obtain rfl : s3 = true := hp 3 (by kernel_rfl)
                                              obtain ⟨bb28, hF, hM⟩ := hS
                                              refine eP 71 (v0 := .agg #[.int .i64 0, .int .i64 0]) (v := .agg #[.int .i64 0, .int .i64 0]) hF (by kernel_rfl) (fun _ => by kernel_rfl) rfl fun a hF => ?_
                                              exact ⟨bb28, ((hF.repl 14 (by kernel_rfl)).cast (by kernel_rfl)), (hM.cast (by kernel_rfl))⟩
                                            · intro s0 s1 s2 s3 s4 s5 s6 s7 s8 hc hi hp a w hS
                                              obtain rfl : s5 = false := hi
                                              obtain rfl : s3 = true := hp 3 (by kernel_rfl)
                                              obtain ⟨bb28, hF, hM⟩ := hS
                                              refine eP 72 (v0 := .int .i64 120) (v := .int .i64 120) hF (by kernel_rfl) (fun _ => by kernel_rfl) rfl fun a hF => ?_
                                              exact ⟨bb28, ((hF.repl 15 (by kernel_rfl)).cast (by kernel_rfl)), (hM.cast (by kernel_rfl))⟩
                                            · intro s0 s1 s2 s3 s4 s5 s6 s7 s8 hc hi hp a w hS
                                              obtain rfl : s6 = false := hi
                                              obtain rfl : s7 = false := hc.f 7 6 (by kernel_rfl) rfl
                                              obtain ⟨bb28, hF, hM⟩ := hS
                                              refine eN 11 28 (t := 23) (fun b => .pointer (some ⟨b, 0, none⟩)) #[.int .i64 0, .int .i64 0] hF hM (by kernel_rfl) (fun _ => by kernel_rfl) fun bb28 a w hF hM => ?_
                                              exact ⟨bb28, ((hF.repl 6 (by kernel_rfl)).cast (by kernel_rfl)), ((hM.repl 1 (by kernel_rfl)).cast (by kernel_rfl))⟩
                                            · intro s0 s1 s2 s3 s4 s5 s6 s7 s8 hc hi hp a w hS
                                              obtain rfl : s7 = false := hi
                                              obtain rfl : s6 = true := hp 6 (by kernel_rfl)
                                              obtain rfl : s4 = true := hp 4 (by kernel_rfl)
                                              obtain ⟨bb28, hF, hM⟩ := hS
                                              refine sStore (i := 28) (off := 0) (cs' := #[.int .i64 0, .int .i64 0]) hF hM (by kernel_rfl) rfl rfl (by kernel_rfl) (by kernel_rfl) rfl (by kernel_rfl) fun w hM => ?_
                                              exact ⟨bb28, (hF.cast (by kernel_rfl)), ((hM.repl 1 (by kernel_rfl)).cast (by kernel_rfl))⟩
                                            · intro s0 s1 s2 s3 s4 s5 s6 s7 s8 hc hi hp a w hS
                                              obtain rfl : s8 = false := hi
                                              obtain rfl : s5 = true := hp 5 (by kernel_rfl)
                                              obtain ⟨bb28, hF, hM⟩ := hS
                                              refine eP 12 (v0 := .int .i64 120) (v := .int .i64 120) hF (by kernel_rfl) (fun _ => by kernel_rfl) rfl fun a hF => ?_
                                              exact ⟨bb28, ((hF.repl 7 (by kernel_rfl)).cast (by kernel_rfl)), (hM.cast (by kernel_rfl))⟩
                                          · intro a w hS
                                            obtain ⟨bb28, hF, hM⟩ := hS
                                            replace hF : Fr 206 [(0, some (.bool false)), (2, some (.pointer (some ⟨bb25, 0, none⟩))), (4, some (.int .i64 120)), (6, some (.int .i64 120)), (8, some (.int .i64 120)), (10, some (.int .i64 120)), (11, some (.pointer (some ⟨bb28, 0, none⟩))), (12, some (.int .i64 120)), (40, some (.agg #[.int .i64 0, .int .i64 0, .int .i64 1, .int .i64 0, .int .i64 1, .int .i64 (-1), .int .i64 0, .int .i64 2, .int .i64 1073741825, .int .i64 1, .int .i64 1, .int .i64 1073741825, .int .i64 (-9223372036854775808), .int .i64 1])), (41, some (.int .i64 6)), (67, some (.tuple #[.agg #[.int .i64 0, .int .i64 0], .int .i64 120])), (68, some (.agg #[.int .i64 1, .int .i64 1])), (69, some (.agg #[.int .i64 (-9223372036854775808), .int .i64 1])), (70, some (.tuple #[.agg #[.int .i64 0, .int .i64 0], .int .i64 120])), (71, some (.agg #[.int .i64 0, .int .i64 0])), (72, some (.int .i64 120))] a := hF.cast (by kernel_rfl)
                                            replace hM : Mem w0.heap.size w0 [(25, some (.row bb25 23 #[.int .i64 (-9223372036854775808), .int .i64 1])), (28, some (.row bb28 23 #[.int .i64 0, .int .i64 0]))] w := hM.cast (by kernel_rfl)
                                            refine hK79 _ _ ?_
                                            refine wp_seq_k fun K80 hK80 => ?_
                                            refine wp_region_lit ?_
                                            refine wl (eL 73 25 0 (v := .agg #[.int .i64 (-9223372036854775808), .int .i64 1]) hF hM (by kernel_rfl) rfl rfl (by kernel_rfl) (by kernel_rfl) fun a w hF hM => ?_)
                                            refine wl (eM 74 (v := .int .i64 120) hF hM (by kernel_rfl) (Yld.to (yld_call (f := 12) (args := #[.agg #[.int .i64 (-9223372036854775808), .int .i64 1]]) hF (by kernel_rfl) (fun _ => by kernel_rfl) (fun w hM => raCheck_w (-9223372036854775808) 1 w (hT.below (Nat.le_refl _) hM.bel))) (by kernel_rfl)) fun a w hF hM => ?_)
                                            refine wl (eP 75 (v0 := .bool (!decide (120 = 120))) (v := .bool false) hF (by kernel_rfl) (fun _ => by kernel_rfl) (nT (by omega)) fun a hF => ?_)
                                            refine sB 2 [(76, .bool false), (77, .int .i64 120)] hF (by kernel_rfl) fun a hF => ?_
                                            refine wl (eP 78 (v0 := .bool (!decide (120 = 120))) (v := .bool false) hF (by kernel_rfl) (fun _ => by kernel_rfl) (nT (by omega)) fun a hF => ?_)
                                            refine sB 3 [(79, .bool false), (80, .bool false), (81, .int .i64 120)] hF (by kernel_rfl) fun a hF => ?_
                                            refine wl (eP 82 (v0 := .bool (!decide (120 = 120))) (v := .bool false) hF (by kernel_rfl) (fun _ => by kernel_rfl) (nT (by omega)) fun a hF => ?_)
                                            refine sB 3 [(83, .bool false), (84, .bool false), (85, .int .i64 120)] hF (by kernel_rfl) fun a hF => ?_
                                            refine wl (eP 86 (v0 := .bool (!decide (120 = 120))) (v := .bool false) hF (by kernel_rfl) (fun _ => by kernel_rfl) (nT (by omega)) fun a hF => ?_)
                                            refine sB 3 [(87, .bool false), (88, .bool false), (89, .int .i64 120)] hF (by kernel_rfl) fun a hF => ?_
                                            refine wl (eP 90 (v0 := .bool (!decide (120 = 120))) (v := .bool false) hF (by kernel_rfl) (fun _ => by kernel_rfl) (nT (by omega)) fun a hF => ?_)
                                            refine sB 3 [(91, .bool false), (92, .bool false), (93, .int .i64 120)] hF (by kernel_rfl) fun a hF => ?_
                                            refine wl (eP 94 (v0 := .bool (!decide (120 = 120))) (v := .bool false) hF (by kernel_rfl) (fun _ => by kernel_rfl) (nT (by omega)) fun a hF => ?_)
                                            refine sB 1 [(95, .bool false)] hF (by kernel_rfl) fun a hF => ?_
                                            refine wpList_nil ?_
                                            refine hK80 _ _ ?_
                                            refine cF hF (by kernel_rfl) (by kernel_rfl) ?_
                                            refine wp_skip ?_
                                            refine hK73 _ _ ?_
                                            refine wp_region_lit ?_
                                            refine wl (eP 96 (v0 := .int .i64 (IntKind.i64.wrap (6 + 1))) (v := .int .i64 7) hF (by kernel_rfl) (fun _ => by kernel_rfl) (vi (by decide)) fun a hF => ?_)
                                            refine sB 1 [(41, .int .i64 7)] hF (by kernel_rfl) fun a hF => ?_
                                            refine wpList_nil ?_
                                            refine hK70 _ _ ?_
                                            refine rounds_k fun K81 hK81 => ?_
                                            refine wp_seq_k fun K82 hK82 => ?_
                                            refine wp_region_lit ?_
                                            refine wl (eP 42 (v0 := .bool (decide (7 < 7))) (v := .bool false) hF (by kernel_rfl) (fun _ => by kernel_rfl) (bF (by omega)) fun a hF => ?_)
                                            refine wpList_nil ?_
                                            refine hK82 _ _ ?_
                                            refine wp_seq_k fun K83 hK83 => ?_
                                            refine cF hF (by kernel_rfl) (by kernel_rfl) ?_
                                            refine wp_exit ?_
                                            refine hK2 _ _ ?_
                                            refine wp_seq_k fun K84 hK84 => ?_
                                            refine wp_region_lit ?_
                                            refine wl (eM 98 (v := .agg #[.int .i64 (-1073741824), .int .i64 1]) hF hM (by kernel_rfl) (yld_call (f := 28) (args := #[.int .i64 (-1073741824), .int .i64 1]) hF (by kernel_rfl) (fun _ => by kernel_rfl) (fun w hM => of_w (-1073741824) 1 w)) fun a w hF hM => ?_)
                                            refine wl (eM 99 (v := .agg #[.int .i64 0, .int .i64 1]) hF hM (by kernel_rfl) (yld_call (f := 28) (args := #[.int .i64 0, .int .i64 1]) hF (by kernel_rfl) (fun _ => by kernel_rfl) (fun w hM => of_w 0 1 w)) fun a w hF hM => ?_)
                                            refine wl (eM 100 (v := .tuple #[.agg #[.int .i64 (-1073741824), .int .i64 1], .int .i64 0]) hF hM (by kernel_rfl) (Yld.to (yld_call (f := 18) (args := #[.agg #[.int .i64 (-1073741824), .int .i64 1], .agg #[.int .i64 0, .int .i64 1]]) hF (by kernel_rfl) (fun _ => by kernel_rfl) (fun w hM => raSub_ok (-1073741824) 1 0 1 w (hT.below (Nat.le_refl _) hM.bel) (by decide) (by decide))) (by kernel_rfl)) fun a w hF hM => ?_)
                                            refine sB 3 [(97, .tuple #[.agg #[.int .i64 (-1073741824), .int .i64 1], .int .i64 0]), (101, .agg #[.int .i64 (-1073741824), .int .i64 1]), (102, .int .i64 0)] hF (by kernel_rfl) fun a hF => ?_
                                            refine wl (eN 13 29 (t := 23) (fun b => .pointer (some ⟨b, 0, none⟩)) #[.int .i64 0, .int .i64 0] hF hM (by kernel_rfl) (fun _ => by kernel_rfl) fun bb29 a w hF hM => ?_)
                                            refine wl (sStore (i := 29) (off := 0) (cs' := #[.int .i64 (-1073741824), .int .i64 1]) hF hM (by kernel_rfl) rfl rfl (by kernel_rfl) (by kernel_rfl) rfl (by kernel_rfl) fun w hM => ?_)
                                            refine sB 1 [(14, .int .i64 0)] hF (by kernel_rfl) fun a hF => ?_
                                            refine wpList_nil ?_
                                            refine hK84 _ _ ?_
                                            refine wp_seq_k fun K85 hK85 => ?_
                                            refine wp_region_lit ?_
                                            refine wl (eM 104 (v := .agg #[.int .i64 (-1073741824), .int .i64 1]) hF hM (by kernel_rfl) (yld_call (f := 28) (args := #[.int .i64 (-1073741824), .int .i64 1]) hF (by kernel_rfl) (fun _ => by kernel_rfl) (fun w hM => of_w (-1073741824) 1 w)) fun a w hF hM => ?_)
                                            refine wl (eM 105 (v := .agg #[.int .i64 1, .int .i64 1]) hF hM (by kernel_rfl) (yld_call (f := 28) (args := #[.int .i64 1, .int .i64 1]) hF (by kernel_rfl) (fun _ => by kernel_rfl) (fun w hM => of_w 1 1 w)) fun a w hF hM => ?_)
                                            refine wl (eM 106 (v := .tuple #[.agg #[.int .i64 0, .int .i64 0], .int .i64 6]) hF hM (by kernel_rfl) (Yld.to (yld_call (f := 18) (args := #[.agg #[.int .i64 (-1073741824), .int .i64 1], .agg #[.int .i64 1, .int .i64 1]]) hF (by kernel_rfl) (fun _ => by kernel_rfl) (fun w hM => raSub_ok (-1073741824) 1 1 1 w (hT.below (Nat.le_refl _) hM.bel) (by decide) (by decide))) (by kernel_rfl)) fun a w hF hM => ?_)
                                            refine sB 3 [(103, .tuple #[.agg #[.int .i64 0, .int .i64 0], .int .i64 6]), (107, .agg #[.int .i64 0, .int .i64 0]), (108, .int .i64 6)] hF (by kernel_rfl) fun a hF => ?_
                                            refine wl (eN 15 30 (t := 23) (fun b => .pointer (some ⟨b, 0, none⟩)) #[.int .i64 0, .int .i64 0] hF hM (by kernel_rfl) (fun _ => by kernel_rfl) fun bb30 a w hF hM => ?_)
                                            refine wl (sStore (i := 30) (off := 0) (cs' := #[.int .i64 0, .int .i64 0]) hF hM (by kernel_rfl) rfl rfl (by kernel_rfl) (by kernel_rfl) rfl (by kernel_rfl) fun w hM => ?_)
                                            refine sB 1 [(16, .int .i64 6)] hF (by kernel_rfl) fun a hF => ?_
                                            refine wpList_nil ?_
                                            refine hK85 _ _ ?_
                                            refine wp_seq_k fun K86 hK86 => ?_
                                            refine wp_region_lit ?_
                                            refine wl (eM 110 (v := .agg #[.int .i64 1, .int .i64 1073741824]) hF hM (by kernel_rfl) (yld_call (f := 28) (args := #[.int .i64 1, .int .i64 1073741824]) hF (by kernel_rfl) (fun _ => by kernel_rfl) (fun w hM => of_w 1 1073741824 w)) fun a w hF hM => ?_)
                                            refine wl (eM 111 (v := .agg #[.int .i64 (-1), .int .i64 1073741824]) hF hM (by kernel_rfl) (yld_call (f := 28) (args := #[.int .i64 (-1), .int .i64 1073741824]) hF (by kernel_rfl) (fun _ => by kernel_rfl) (fun w hM => of_w (-1) 1073741824 w)) fun a w hF hM => ?_)
                                            refine wl (eM 112 (v := .tuple #[.agg #[.int .i64 0, .int .i64 1], .int .i64 0]) hF hM (by kernel_rfl) (Yld.to (yld_call (f := 16) (args := #[.agg #[.int .i64 1, .int .i64 1073741824], .agg #[.int .i64 (-1), .int .i64 1073741824]]) hF (by kernel_rfl) (fun _ => by kernel_rfl) (fun w hM => raAdd_ok 1 1073741824 (-1) 1073741824 w (hT.below (Nat.le_refl _) hM.bel) (by decide) (by decide))) (by kernel_rfl)) fun a w hF hM => ?_)
                                            refine sB 3 [(109, .tuple #[.agg #[.int .i64 0, .int .i64 1], .int .i64 0]), (113, .agg #[.int .i64 0, .int .i64 1]), (114, .int .i64 0)] hF (by kernel_rfl) fun a hF => ?_
                                            refine wl (eN 17 31 (t := 23) (fun b => .pointer (some ⟨b, 0, none⟩)) #[.int .i64 0, .int .i64 0] hF hM (by kernel_rfl) (fun _ => by kernel_rfl) fun bb31 a w hF hM => ?_)
                                            refine wl (sStore (i := 31) (off := 0) (cs' := #[.int .i64 0, .int .i64 1]) hF hM (by kernel_rfl) rfl rfl (by kernel_rfl) (by kernel_rfl) rfl (by kernel_rfl) fun w hM => ?_)
                                            refine sB 1 [(18, .int .i64 0)] hF (by kernel_rfl) fun a hF => ?_
                                            refine wpList_nil ?_
                                            refine hK86 _ _ ?_
                                            refine wp_seq_k fun K87 hK87 => ?_
                                            refine wp_region_lit ?_
                                            refine wl (eM 116 (v := .agg #[.int .i64 1, .int .i64 1073741824]) hF hM (by kernel_rfl) (yld_call (f := 28) (args := #[.int .i64 1, .int .i64 1073741824]) hF (by kernel_rfl) (fun _ => by kernel_rfl) (fun w hM => of_w 1 1073741824 w)) fun a w hF hM => ?_)
                                            refine wl (eM 117 (v := .agg #[.int .i64 1, .int .i64 1073741823]) hF hM (by kernel_rfl) (yld_call (f := 28) (args := #[.int .i64 1, .int .i64 1073741823]) hF (by kernel_rfl) (fun _ => by kernel_rfl) (fun w hM => of_w 1 1073741823 w)) fun a w hF hM => ?_)
                                            refine wl (eM 118 (v := .tuple #[.agg #[.int .i64 0, .int .i64 0], .int .i64 6]) hF hM (by kernel_rfl) (Yld.to (yld_call (f := 16) (args := #[.agg #[.int .i64 1, .int .i64 1073741824], .agg #[.int .i64 1, .int .i64 1073741823]]) hF (by kernel_rfl) (fun _ => by kernel_rfl) (fun w hM => raAdd_ok 1 1073741824 1 1073741823 w (hT.below (Nat.le_refl _) hM.bel) (by decide) (by decide))) (by kernel_rfl)) fun a w hF hM => ?_)
                                            refine sB 3 [(115, .tuple #[.agg #[.int .i64 0, .int .i64 0], .int .i64 6]), (119, .agg #[.int .i64 0, .int .i64 0]), (120, .int .i64 6)] hF (by kernel_rfl) fun a hF => ?_
                                            refine wl (eN 19 32 (t := 23) (fun b => .pointer (some ⟨b, 0, none⟩)) #[.int .i64 0, .int .i64 0] hF hM (by kernel_rfl) (fun _ => by kernel_rfl) fun bb32 a w hF hM => ?_)
                                            refine wl (sStore (i := 32) (off := 0) (cs' := #[.int .i64 0, .int .i64 0]) hF hM (by kernel_rfl) rfl rfl (by kernel_rfl) (by kernel_rfl) rfl (by kernel_rfl) fun w hM => ?_)
                                            refine sB 1 [(20, .int .i64 6)] hF (by kernel_rfl) fun a hF => ?_
                                            refine wpList_nil ?_
                                            refine hK87 _ _ ?_
                                            refine wp_seq_k fun K88 hK88 => ?_
                                            refine wp_region_lit ?_
                                            refine wl (eM 122 (v := .tuple #[.agg #[.int .i64 (-1073741824), .int .i64 1], .int .i64 0]) hF hM (by kernel_rfl) (Yld.to (yld_call (f := 10) (args := #[.int .i64 (-4611686018427387904), .int .i64 4294967296]) hF (by kernel_rfl) (fun _ => by kernel_rfl) (fun w hM => raMake_w (-4611686018427387904) 4294967296 w (hT.below (Nat.le_refl _) hM.bel))) (by kernel_rfl)) fun a w hF hM => ?_)
                                            refine sB 3 [(121, .tuple #[.agg #[.int .i64 (-1073741824), .int .i64 1], .int .i64 0]), (123, .agg #[.int .i64 (-1073741824), .int .i64 1]), (124, .int .i64 0)] hF (by kernel_rfl) fun a hF => ?_
                                            refine wl (eN 21 33 (t := 23) (fun b => .pointer (some ⟨b, 0, none⟩)) #[.int .i64 0, .int .i64 0] hF hM (by kernel_rfl) (fun _ => by kernel_rfl) fun bb33 a w hF hM => ?_)
                                            refine wl (sStore (i := 33) (off := 0) (cs' := #[.int .i64 (-1073741824), .int .i64 1]) hF hM (by kernel_rfl) rfl rfl (by kernel_rfl) (by kernel_rfl) rfl (by kernel_rfl) fun w hM => ?_)
                                            refine sB 1 [(22, .int .i64 0)] hF (by kernel_rfl) fun a hF => ?_
                                            refine wpList_nil ?_
                                            refine hK88 _ _ ?_
                                            refine wp_seq_k fun K89 hK89 => ?_
                                            refine wp_region_lit ?_
                                            refine wl (eM 126 (v := .tuple #[.agg #[.int .i64 0, .int .i64 0], .int .i64 6]) hF hM (by kernel_rfl) (Yld.to (yld_call (f := 10) (args := #[.int .i64 (-9223372036854775808), .int .i64 1]) hF (by kernel_rfl) (fun _ => by kernel_rfl) (fun w hM => raMake_w (-9223372036854775808) 1 w (hT.below (Nat.le_refl _) hM.bel))) (by kernel_rfl)) fun a w hF hM => ?_)
                                            refine sB 3 [(125, .tuple #[.agg #[.int .i64 0, .int .i64 0], .int .i64 6]), (127, .agg #[.int .i64 0, .int .i64 0]), (128, .int .i64 6)] hF (by kernel_rfl) fun a hF => ?_
                                            refine wl (eN 23 34 (t := 23) (fun b => .pointer (some ⟨b, 0, none⟩)) #[.int .i64 0, .int .i64 0] hF hM (by kernel_rfl) (fun _ => by kernel_rfl) fun bb34 a w hF hM => ?_)
                                            refine wl (sStore (i := 34) (off := 0) (cs' := #[.int .i64 0, .int .i64 0]) hF hM (by kernel_rfl) rfl rfl (by kernel_rfl) (by kernel_rfl) rfl (by kernel_rfl) fun w hM => ?_)
                                            refine sB 1 [(24, .int .i64 6)] hF (by kernel_rfl) fun a hF => ?_
                                            refine wpList_nil ?_
                                            refine hK89 _ _ ?_
                                            refine wp_seq_k fun K90 hK90 => ?_
                                            refine wp_region_lit ?_
                                            refine wl (eM 130 (v := .tuple #[.agg #[.int .i64 0, .int .i64 0], .int .i64 6]) hF hM (by kernel_rfl) (Yld.to (yld_call (f := 10) (args := #[.int .i64 1, .int .i64 (-9223372036854775808)]) hF (by kernel_rfl) (fun _ => by kernel_rfl) (fun w hM => raMake_w 1 (-9223372036854775808) w (hT.below (Nat.le_refl _) hM.bel))) (by kernel_rfl)) fun a w hF hM => ?_)
                                            refine sB 3 [(129, .tuple #[.agg #[.int .i64 0, .int .i64 0], .int .i64 6]), (131, .agg #[.int .i64 0, .int .i64 0]), (132, .int .i64 6)] hF (by kernel_rfl) fun a hF => ?_
                                            refine wl (eN 25 35 (t := 23) (fun b => .pointer (some ⟨b, 0, none⟩)) #[.int .i64 0, .int .i64 0] hF hM (by kernel_rfl) (fun _ => by kernel_rfl) fun bb35 a w hF hM => ?_)
                                            refine wl (sStore (i := 35) (off := 0) (cs' := #[.int .i64 0, .int .i64 0]) hF hM (by kernel_rfl) rfl rfl (by kernel_rfl) (by kernel_rfl) rfl (by kernel_rfl) fun w hM => ?_)
                                            refine sB 1 [(26, .int .i64 6)] hF (by kernel_rfl) fun a hF => ?_
                                            refine wpList_nil ?_
                                            refine hK90 _ _ ?_
                                            refine wp_seq_k fun K91 hK91 => ?_
                                            refine wp_region_lit ?_
                                            refine wl (eM 134 (v := .agg #[.int .i64 1073741824, .int .i64 3]) hF hM (by kernel_rfl) (yld_call (f := 28) (args := #[.int .i64 1073741824, .int .i64 3]) hF (by kernel_rfl) (fun _ => by kernel_rfl) (fun w hM => of_w 1073741824 3 w)) fun a w hF hM => ?_)
                                            refine wl (eM 135 (v := .agg #[.int .i64 3, .int .i64 1073741824]) hF hM (by kernel_rfl) (yld_call (f := 28) (args := #[.int .i64 3, .int .i64 1073741824]) hF (by kernel_rfl) (fun _ => by kernel_rfl) (fun w hM => of_w 3 1073741824 w)) fun a w hF hM => ?_)
                                            refine wl (eM 136 (v := .tuple #[.agg #[.int .i64 1, .int .i64 1], .int .i64 0]) hF hM (by kernel_rfl) (Yld.to (yld_call (f := 20) (args := #[.agg #[.int .i64 1073741824, .int .i64 3], .agg #[.int .i64 3, .int .i64 1073741824]]) hF (by kernel_rfl) (fun _ => by kernel_rfl) (fun w hM => raMul_ok 1073741824 3 3 1073741824 w (hT.below (Nat.le_refl _) hM.bel) (by decide) (by decide))) (by kernel_rfl)) fun a w hF hM => ?_)
                                            refine sB 3 [(133, .tuple #[.agg #[.int .i64 1, .int .i64 1], .int .i64 0]), (137, .agg #[.int .i64 1, .int .i64 1]), (138, .int .i64 0)] hF (by kernel_rfl) fun a hF => ?_
                                            refine wl (eN 27 36 (t := 23) (fun b => .pointer (some ⟨b, 0, none⟩)) #[.int .i64 0, .int .i64 0] hF hM (by kernel_rfl) (fun _ => by kernel_rfl) fun bb36 a w hF hM => ?_)
                                            refine wl (sStore (i := 36) (off := 0) (cs' := #[.int .i64 1, .int .i64 1]) hF hM (by kernel_rfl) rfl rfl (by kernel_rfl) (by kernel_rfl) rfl (by kernel_rfl) fun w hM => ?_)
                                            refine sB 1 [(28, .int .i64 0)] hF (by kernel_rfl) fun a hF => ?_
                                            refine wpList_nil ?_
                                            refine hK91 _ _ ?_
                                            refine wp_seq_k fun K92 hK92 => ?_
                                            refine wp_region_lit ?_
                                            refine wl (eM 140 (v := .agg #[.int .i64 (-1), .int .i64 1073741824]) hF hM (by kernel_rfl) (yld_call (f := 28) (args := #[.int .i64 (-1), .int .i64 1073741824]) hF (by kernel_rfl) (fun _ => by kernel_rfl) (fun w hM => of_w (-1) 1073741824 w)) fun a w hF hM => ?_)
                                            refine wl (eM 141 (v := .tuple #[.int .i64 (-1), .int .i64 0]) hF hM (by kernel_rfl) (Yld.to (yld_call (f := 26) (args := #[.agg #[.int .i64 (-1), .int .i64 1073741824]]) hF (by kernel_rfl) (fun _ => by kernel_rfl) (fun w hM => raFloor_ok (-1) 1073741824 w (hT.below (Nat.le_refl _) hM.bel) (by decide))) (by kernel_rfl)) fun a w hF hM => ?_)
                                            refine sB 5 [(139, .tuple #[.int .i64 (-1), .int .i64 0]), (142, .int .i64 (-1)), (143, .int .i64 0), (29, .int .i64 (-1)), (30, .int .i64 0)] hF (by kernel_rfl) fun a hF => ?_
                                            refine wpList_nil ?_
                                            refine hK92 _ _ ?_
                                            refine wp_seq_k fun K93 hK93 => ?_
                                            refine wp_region_lit ?_
                                            refine wl (eM 145 (v := .agg #[.int .i64 1, .int .i64 1073741824]) hF hM (by kernel_rfl) (yld_call (f := 28) (args := #[.int .i64 1, .int .i64 1073741824]) hF (by kernel_rfl) (fun _ => by kernel_rfl) (fun w hM => of_w 1 1073741824 w)) fun a w hF hM => ?_)
                                            refine wl (eM 146 (v := .tuple #[.int .i64 1, .int .i64 0]) hF hM (by kernel_rfl) (Yld.to (yld_call (f := 27) (args := #[.agg #[.int .i64 1, .int .i64 1073741824]]) hF (by kernel_rfl) (fun _ => by kernel_rfl) (fun w hM => raCeil_ok 1 1073741824 w (hT.below (Nat.le_refl _) hM.bel) (by decide))) (by kernel_rfl)) fun a w hF hM => ?_)
                                            refine sB 5 [(144, .tuple #[.int .i64 1, .int .i64 0]), (147, .int .i64 1), (148, .int .i64 0), (31, .int .i64 1), (32, .int .i64 0)] hF (by kernel_rfl) fun a hF => ?_
                                            refine wpList_nil ?_
                                            refine hK93 _ _ ?_
                                            refine wp_seq_k fun K94 hK94 => ?_
                                            refine wp_region_lit ?_
                                            refine sB 1 [(149, .bool true)] hF (by kernel_rfl) fun a hF => ?_
                                            refine wl (eM 150 (v := .bool true) hF hM (by kernel_rfl) (yld_call (f := 14) (args := #[]) hF (by kernel_rfl) (fun _ => by kernel_rfl) (fun w hM => works_w w (hT.below (Nat.le_refl _) hM.bel))) fun a w hF hM => ?_)
                                            refine sB 4 [(151, .bool true), (152, .bool true), (153, .bool true), (154, .bool true)] hF (by kernel_rfl) fun a hF => ?_
                                            refine wl (eL 155 29 0 (v := .agg #[.int .i64 (-1073741824), .int .i64 1]) hF hM (by kernel_rfl) rfl rfl (by kernel_rfl) (by kernel_rfl) fun a w hF hM => ?_)
                                            refine sB 1 [(156, .int .i64 0)] hF (by kernel_rfl) fun a hF => ?_
                                            refine wl (eM 157 (v := .bool true) hF hM (by kernel_rfl) (Yld.to (yld_call (f := 30) (args := #[.agg #[.int .i64 (-1073741824), .int .i64 1], .int .i64 0, .int .i64 (-1073741824), .int .i64 1]) hF (by kernel_rfl) (fun _ => by kernel_rfl) (fun w hM => is_w (-1073741824) 1 0 (-1073741824) 1 w)) (by kernel_rfl)) fun a w hF hM => ?_)
                                            refine sB 3 [(158, .bool true), (159, .bool true), (160, .int .i64 6)] hF (by kernel_rfl) fun a hF => ?_
                                            refine wl (eP 161 (v0 := .bool (decide (6 = 6))) (v := .bool true) hF (by kernel_rfl) (fun _ => by kernel_rfl) (bT (by omega)) fun a hF => ?_)
                                            refine sB 2 [(162, .bool true), (163, .bool true)] hF (by kernel_rfl) fun a hF => ?_
                                            refine wl (eL 164 31 0 (v := .agg #[.int .i64 0, .int .i64 1]) hF hM (by kernel_rfl) rfl rfl (by kernel_rfl) (by kernel_rfl) fun a w hF hM => ?_)
                                            refine sB 1 [(165, .int .i64 0)] hF (by kernel_rfl) fun a hF => ?_
                                            refine wl (eM 166 (v := .bool true) hF hM (by kernel_rfl) (Yld.to (yld_call (f := 30) (args := #[.agg #[.int .i64 0, .int .i64 1], .int .i64 0, .int .i64 0, .int .i64 1]) hF (by kernel_rfl) (fun _ => by kernel_rfl) (fun w hM => is_w 0 1 0 0 1 w)) (by kernel_rfl)) fun a w hF hM => ?_)
                                            refine sB 3 [(167, .bool true), (168, .bool true), (169, .int .i64 6)] hF (by kernel_rfl) fun a hF => ?_
                                            refine wl (eP 170 (v0 := .bool (decide (6 = 6))) (v := .bool true) hF (by kernel_rfl) (fun _ => by kernel_rfl) (bT (by omega)) fun a hF => ?_)
                                            refine sB 2 [(171, .bool true), (172, .bool true)] hF (by kernel_rfl) fun a hF => ?_
                                            refine wl (eL 173 33 0 (v := .agg #[.int .i64 (-1073741824), .int .i64 1]) hF hM (by kernel_rfl) rfl rfl (by kernel_rfl) (by kernel_rfl) fun a w hF hM => ?_)
                                            refine sB 1 [(174, .int .i64 0)] hF (by kernel_rfl) fun a hF => ?_
                                            refine wl (eM 175 (v := .bool true) hF hM (by kernel_rfl) (Yld.to (yld_call (f := 30) (args := #[.agg #[.int .i64 (-1073741824), .int .i64 1], .int .i64 0, .int .i64 (-1073741824), .int .i64 1]) hF (by kernel_rfl) (fun _ => by kernel_rfl) (fun w hM => is_w (-1073741824) 1 0 (-1073741824) 1 w)) (by kernel_rfl)) fun a w hF hM => ?_)
                                            refine sB 3 [(176, .bool true), (177, .bool true), (178, .int .i64 6)] hF (by kernel_rfl) fun a hF => ?_
                                            refine wl (eP 179 (v0 := .bool (decide (6 = 6))) (v := .bool true) hF (by kernel_rfl) (fun _ => by kernel_rfl) (bT (by omega)) fun a hF => ?_)
                                            refine sB 3 [(180, .bool true), (181, .bool true), (182, .int .i64 6)] hF (by kernel_rfl) fun a hF => ?_
                                            refine wl (eP 183 (v0 := .bool (decide (6 = 6))) (v := .bool true) hF (by kernel_rfl) (fun _ => by kernel_rfl) (bT (by omega)) fun a hF => ?_)
                                            refine sB 2 [(184, .bool true), (185, .bool true)] hF (by kernel_rfl) fun a hF => ?_
                                            refine wl (eL 186 36 0 (v := .agg #[.int .i64 1, .int .i64 1]) hF hM (by kernel_rfl) rfl rfl (by kernel_rfl) (by kernel_rfl) fun a w hF hM => ?_)
                                            refine sB 1 [(187, .int .i64 0)] hF (by kernel_rfl) fun a hF => ?_
                                            refine wl (eM 188 (v := .bool true) hF hM (by kernel_rfl) (Yld.to (yld_call (f := 30) (args := #[.agg #[.int .i64 1, .int .i64 1], .int .i64 0, .int .i64 1, .int .i64 1]) hF (by kernel_rfl) (fun _ => by kernel_rfl) (fun w hM => is_w 1 1 0 1 1 w)) (by kernel_rfl)) fun a w hF hM => ?_)
                                            refine sB 3 [(189, .bool true), (190, .bool true), (191, .int .i64 (-1))] hF (by kernel_rfl) fun a hF => ?_
                                            refine wl (eP 192 (v0 := .bool (decide (-1 = -1))) (v := .bool true) hF (by kernel_rfl) (fun _ => by kernel_rfl) (bT (by omega)) fun a hF => ?_)
                                            refine sB 3 [(193, .bool true), (194, .bool true), (195, .int .i64 0)] hF (by kernel_rfl) fun a hF => ?_
                                            refine wl (eP 196 (v0 := .bool (decide (0 = 0))) (v := .bool true) hF (by kernel_rfl) (fun _ => by kernel_rfl) (bT (by omega)) fun a hF => ?_)
                                            refine sB 3 [(197, .bool true), (198, .bool true), (199, .int .i64 1)] hF (by kernel_rfl) fun a hF => ?_
                                            refine wl (eP 200 (v0 := .bool (decide (1 = 1))) (v := .bool true) hF (by kernel_rfl) (fun _ => by kernel_rfl) (bT (by omega)) fun a hF => ?_)
                                            refine sB 3 [(201, .bool true), (202, .bool true), (203, .int .i64 0)] hF (by kernel_rfl) fun a hF => ?_
                                            refine wl (eP 204 (v0 := .bool (decide (0 = 0))) (v := .bool true) hF (by kernel_rfl) (fun _ => by kernel_rfl) (bT (by omega)) fun a hF => ?_)
                                            refine sB 2 [(205, .bool true), (0, .bool true)] hF (by kernel_rfl) fun a hF => ?_
                                            refine wpList_nil ?_
                                            refine hK94 _ _ ?_
                                            refine wp_ret ?_
                                            refine hR0 _ _ ?_
                                            refine ret_of hF hM (.tmp rfl (.nil)) ?_
                                            exact ⟨rfl, hM.bel⟩

end Go.Proofs.YtboodcekjooehaaDoor
