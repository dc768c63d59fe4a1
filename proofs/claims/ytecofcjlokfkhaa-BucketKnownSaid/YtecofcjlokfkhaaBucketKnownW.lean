/-
  The walk of BucketKnown.
-/
import Derived.Test.YtecofcjlokfkhaaBkD
import Derived.Test.YtecofcjlokfkhaaCfTrW
namespace Go.Proofs.Ytecofcjlokfkhaa
open Go.RowKit
set_option linter.unusedVariables false
set_option linter.unusedSimpArgs false

set_option maxRecDepth 100000 in
set_option maxHeartbeats 8000000 in
theorem bucketKnown_walk (w0 : World) :
    Calls Try.prog 9 #[] w0 (Ret w0 (.bool true)) := by
  refine enterK 253 Try.func9 rfl rfl rfl ?_
  intro a hF Q0 hR0 hN0
  have hM := Mem.start w0
  refine wp_seq_k fun K1 hK1 => ?_
  refine wp_region_lit ?_
  refine sB 1 [(0, .bool false)] hF (by kernel_rfl) fun a hF => ?_
  refine wpList_nil ?_
  refine hK1 _ _ ?_
  refine wp_seq_k fun K2 hK2 => ?_
  refine wp_region_lit ?_
  refine sB 1 [(37, .agg #[.int .i64 1, .int .i64 1])] hF (by kernel_rfl) fun a hF => ?_
  refine wl (eN 1 1 (t := 23) (fun b => .pointer (some ⟨b, 0, none⟩)) #[.int .i64 0, .int .i64 0] hF hM (by kernel_rfl) (fun _ => by kernel_rfl) fun bb1 a w hF hM => ?_)
  refine wl (sStore (i := 1) (off := 0) (cs' := #[.int .i64 1, .int .i64 1]) hF hM (by kernel_rfl) rfl rfl (by kernel_rfl) (by kernel_rfl) rfl (by kernel_rfl) fun w hM => ?_)
  refine wpList_nil ?_
  refine hK2 _ _ ?_
  refine wp_seq_k fun K3 hK3 => ?_
  refine wp_seq_k fun K4 hK4 => ?_
  refine wp_region_lit ?_
  refine sB 8 [(38, .agg #[.int .i64 0, .int .i64 0]), (39, .agg #[.int .i64 1, .int .i64 0]), (40, .agg #[.int .i64 0, .int .i64 1]), (41, .agg #[.int .i64 1048577, .int .i64 1]), (42, .agg #[.int .i64 1, .int .i64 2097153]), (43, .agg #[.int .i64 (-5), .int .i64 (-5)]), (44, .agg #[.int .i64 0, .int .i64 0, .int .i64 1, .int .i64 0, .int .i64 0, .int .i64 1, .int .i64 1048577, .int .i64 1, .int .i64 1, .int .i64 2097153, .int .i64 (-5), .int .i64 (-5)]), (45, .int .i64 0)] hF (by kernel_rfl) fun a hF => ?_
  refine wpList_nil ?_
  refine hK4 _ _ ?_
  refine wp_block ?_
  refine wp_loop_rounds 7 ?_
  refine rounds_k fun K5 hK5 => ?_
  refine wp_seq_k fun K6 hK6 => ?_
  refine wp_region_lit ?_
  refine wl (eP 46 (v0 := .bool (decide (0 < 6))) (v := .bool true) hF (by kernel_rfl) (fun _ => by kernel_rfl) (bT (by omega)) fun a hF => ?_)
  refine wpList_nil ?_
  refine hK6 _ _ ?_
  refine wp_seq_k fun K7 hK7 => ?_
  refine cT hF (by kernel_rfl) (by kernel_rfl) ?_
  refine wp_skip ?_
  refine hK7 _ _ ?_
  refine wp_seq_k fun K8 hK8 => ?_
  refine wp_block ?_
  refine wp_seq_k fun K9 hK9 => ?_
  refine wp_region_lit ?_
  refine sB 1 [(47, .agg #[.int .i64 0, .int .i64 0])] hF (by kernel_rfl) fun a hF => ?_
  refine wl (eN 3 2 (t := 23) (fun b => .pointer (some ⟨b, 0, none⟩)) #[.int .i64 0, .int .i64 0] hF hM (by kernel_rfl) (fun _ => by kernel_rfl) fun bb2 a w hF hM => ?_)
  refine wl (sStore (i := 2) (off := 0) (cs' := #[.int .i64 0, .int .i64 0]) hF hM (by kernel_rfl) rfl rfl (by kernel_rfl) (by kernel_rfl) rfl (by kernel_rfl) fun w hM => ?_)
  refine wpList_nil ?_
  refine hK9 _ _ ?_
  refine wp_seq_k fun K10 hK10 => ?_
  refine rF (by kernel_rfl) (by kernel_rfl) (fun S a w => ∃ bb3 : Nat, ∃ AA4 : Option Addr, ∃ cc4 : Nat, Fr 253 [(0, some (.bool false)), (1, some (.pointer (some ⟨bb1, 0, none⟩))), (3, some (.pointer (some ⟨bb2, 0, none⟩))), (4, (cond (S.getD 7 false) (some (.bool false)) none)), (5, (cond (S.getD 8 false) (some (.int .i64 130)) none)), (44, some (.agg #[.int .i64 0, .int .i64 0, .int .i64 1, .int .i64 0, .int .i64 0, .int .i64 1, .int .i64 1048577, .int .i64 1, .int .i64 1, .int .i64 2097153, .int .i64 (-5), .int .i64 (-5)])), (45, some (.int .i64 0)), (48, (cond (S.getD 4 false) (some (.tuple #[.bool false, .int .i64 130])) none)), (49, (cond (S.getD 0 false) (some (.agg #[.int .i64 0, .int .i64 0])) none)), (50, (cond (S.getD 1 false) (some (.slice (some ⟨bb3, 0, none⟩) 2 2)) none)), (51, (cond (S.getD 2 false) (some (.slice AA4 1 cc4)) none)), (52, (cond (S.getD 3 false) (some (.tuple #[.bool false, .int .i64 130])) none)), (53, (cond (S.getD 5 false) (some (.bool false)) none)), (54, (cond (S.getD 6 false) (some (.int .i64 130)) none))] a ∧ Mem w0.heap.size w0 [(1, some (.row bb1 23 #[.int .i64 1, .int .i64 1])), (2, some (.row bb2 23 #[.int .i64 0, .int .i64 0])), (3, (cond (S.getD 1 false) (some (.row bb3 3 #[.int .i64 5, .int .i64 0])) none)), (4, (cond (S.getD 2 false) (some (.own (.slice AA4 1 cc4) 30 2 1 (flat2 ([(5, 0)])))) none))] w) ?_ ?_ ?_
  · exact ⟨0, none, 0, (((((((((((((((Fr.nil hF).co hF (i := 54) (by kernel_rfl)).co hF (i := 53) (by kernel_rfl)).co hF (i := 52) (by kernel_rfl)).co hF (i := 51) (by kernel_rfl)).co hF (i := 50) (by kernel_rfl)).co hF (i := 49) (by kernel_rfl)).co hF (i := 48) (by kernel_rfl)).co hF (i := 45) (by kernel_rfl)).co hF (i := 44) (by kernel_rfl)).co hF (i := 5) (by kernel_rfl)).co hF (i := 4) (by kernel_rfl)).co hF (i := 3) (by kernel_rfl)).co hF (i := 1) (by kernel_rfl)).co hF (i := 0) (by kernel_rfl)), hM.drew.sub ((((Sub.nil.co (k := 4) (by kernel_rfl)).co (k := 3) (by kernel_rfl)).co (k := 2) (by kernel_rfl)).co (k := 1) (by kernel_rfl))⟩
  · refine stC ?_ (stC ?_ (stC ?_ (stC ?_ (stC ?_ (stC ?_ (stC ?_ (stC ?_ (stC ?_ (trivial)))))))))
    · intro s0 s1 s2 s3 s4 s5 s6 s7 s8 hc hi hp a w hS
      obtain rfl : s0 = false := hi
      obtain ⟨bb3, AA4, cc4, hF, hM⟩ := hS
      refine eL 49 2 0 (v := .agg #[.int .i64 0, .int .i64 0]) hF hM (by kernel_rfl) rfl rfl (by kernel_rfl) (by kernel_rfl) fun a w hF hM => ?_
      exact ⟨bb3, AA4, cc4, ((hF.repl 8 (by kernel_rfl)).cast (by kernel_rfl)), (hM.cast (by kernel_rfl))⟩
    · intro s0 s1 s2 s3 s4 s5 s6 s7 s8 hc hi hp a w hS
      obtain rfl : s1 = false := hi
      obtain ⟨bb3, AA4, cc4, hF, hM⟩ := hS
      refine eN 50 3 (t := 3) (fun b => .slice (some ⟨b, 0, none⟩) 2 2) #[.int .i64 5, .int .i64 0] hF hM (by kernel_rfl) (fun _ => by kernel_rfl) fun bb3 a w hF hM => ?_
      exact ⟨bb3, AA4, cc4, ((hF.repl 9 (by kernel_rfl)).cast (by kernel_rfl)), ((hM.repl 2 (by kernel_rfl)).cast (by kernel_rfl))⟩
    · intro s0 s1 s2 s3 s4 s5 s6 s7 s8 hc hi hp a w hS
      obtain rfl : s2 = false := hi
      obtain rfl : s1 = true := hp 1 (by kernel_rfl)
      obtain ⟨bb3, AA4, cc4, hF, hM⟩ := hS
      refine sOwn 4 (f := 31) (args := #[.slice (some ⟨bb3, 0, none⟩) 2 2]) (mk := fun v => v) (e := 30) (size := 2) (m := 1) (xs := (flat2 ([(5, 0)]))) hF hM (by kernel_rfl) rfl (by decide) (by kernel_rfl) (fun _ => by kernel_rfl) (trace_w (some ⟨bb3, 0, none⟩) [5, 0] 2 w (hM.roRow (k := 3) rfl) (by decide)) fun AA4 cc4 a w hF hM => ?_
      exact ⟨bb3, AA4, cc4, ((hF.repl 10 (by kernel_rfl)).cast (by kernel_rfl)), ((hM.repl 3 (by kernel_rfl)).cast (by kernel_rfl))⟩
    · intro s0 s1 s2 s3 s4 s5 s6 s7 s8 hc hi hp a w hS
      obtain rfl : s3 = false := hi
      obtain rfl : s2 = true := hp 2 (by kernel_rfl)
      obtain rfl : s0 = true := hp 0 (by kernel_rfl)
      obtain ⟨bb3, AA4, cc4, hF, hM⟩ := hS
      refine eM 52 (v := .tuple #[.bool false, .int .i64 130]) hF hM (by kernel_rfl) (Yld.to (yld_call (f := 23) (args := #[.agg #[.int .i64 0, .int .i64 0], .slice AA4 1 cc4]) hF (by kernel_rfl) (fun _ => by kernel_rfl) (fun w hM => conforms_w 0 0 AA4 ([(5, 0)]) _ w (ro_of_own (hM.ok 4 _ rfl)))) (by kernel_rfl)) fun a w hF hM => ?_
      exact ⟨bb3, AA4, cc4, ((hF.repl 11 (by kernel_rfl)).cast (by kernel_rfl)), (hM.cast (by kernel_rfl))⟩
    · intro s0 s1 s2 s3 s4 s5 s6 s7 s8 hc hi hp a w hS
      obtain rfl : s4 = false := hi
      obtain rfl : s3 = true := hp 3 (by kernel_rfl)
      obtain ⟨bb3, AA4, cc4, hF, hM⟩ := hS
      refine eP 48 (v0 := .tuple #[.bool false, .int .i64 130]) (v := .tuple #[.bool false, .int .i64 130]) hF (by kernel_rfl) (fun _ => by kernel_rfl) rfl fun a hF => ?_
      exact ⟨bb3, AA4, cc4, ((hF.repl 7 (by kernel_rfl)).cast (by kernel_rfl)), (hM.cast (by kernel_rfl))⟩
    · intro s0 s1 s2 s3 s4 s5 s6 s7 s8 hc hi hp a w hS
      obtain rfl : s5 = false := hi
      obtain rfl : s4 = true := hp 4 (by kernel_rfl)
      obtain ⟨bb3, AA4, cc4, hF, hM⟩ := hS
      refine eP 53 (v0 := .bool false) (v := .bool false) hF (by kernel_rfl) (fun _ => by kernel_rfl) rfl fun a hF => ?_
      exact ⟨bb3, AA4, cc4, ((hF.repl 12 (by kernel_rfl)).cast (by kernel_rfl)), (hM.cast (by kernel_rfl))⟩
    · intro s0 s1 s2 s3 s4 s5 s6 s7 s8 hc hi hp a w hS
      obtain rfl : s6 = false := hi
      obtain rfl : s4 = true := hp 4 (by kernel_rfl)
      obtain ⟨bb3, AA4, cc4, hF, hM⟩ := hS
      refine eP 54 (v0 := .int .i64 130) (v := .int .i64 130) hF (by kernel_rfl) (fun _ => by kernel_rfl) rfl fun a hF => ?_
      exact ⟨bb3, AA4, cc4, ((hF.repl 13 (by kernel_rfl)).cast (by kernel_rfl)), (hM.cast (by kernel_rfl))⟩
    · intro s0 s1 s2 s3 s4 s5 s6 s7 s8 hc hi hp a w hS
      obtain rfl : s7 = false := hi
      obtain rfl : s5 = true := hp 5 (by kernel_rfl)
      obtain ⟨bb3, AA4, cc4, hF, hM⟩ := hS
      refine eP 4 (v0 := .bool false) (v := .bool false) hF (by kernel_rfl) (fun _ => by kernel_rfl) rfl fun a hF => ?_
      exact ⟨bb3, AA4, cc4, ((hF.repl 3 (by kernel_rfl)).cast (by kernel_rfl)), (hM.cast (by kernel_rfl))⟩
    · intro s0 s1 s2 s3 s4 s5 s6 s7 s8 hc hi hp a w hS
      obtain rfl : s8 = false := hi
      obtain rfl : s6 = true := hp 6 (by kernel_rfl)
      obtain ⟨bb3, AA4, cc4, hF, hM⟩ := hS
      refine eP 5 (v0 := .int .i64 130) (v := .int .i64 130) hF (by kernel_rfl) (fun _ => by kernel_rfl) rfl fun a hF => ?_
      exact ⟨bb3, AA4, cc4, ((hF.repl 4 (by kernel_rfl)).cast (by kernel_rfl)), (hM.cast (by kernel_rfl))⟩
  · intro a w hS
    obtain ⟨bb3, AA4, cc4, hF, hM⟩ := hS
    replace hF : Fr 253 [(0, some (.bool false)), (1, some (.pointer (some ⟨bb1, 0, none⟩))), (3, some (.pointer (some ⟨bb2, 0, none⟩))), (4, some (.bool false)), (5, some (.int .i64 130)), (44, some (.agg #[.int .i64 0, .int .i64 0, .int .i64 1, .int .i64 0, .int .i64 0, .int .i64 1, .int .i64 1048577, .int .i64 1, .int .i64 1, .int .i64 2097153, .int .i64 (-5), .int .i64 (-5)])), (45, some (.int .i64 0)), (48, some (.tuple #[.bool false, .int .i64 130])), (49, some (.agg #[.int .i64 0, .int .i64 0])), (50, some (.slice (some ⟨bb3, 0, none⟩) 2 2)), (51, some (.slice AA4 1 cc4)), (52, some (.tuple #[.bool false, .int .i64 130])), (53, some (.bool false)), (54, some (.int .i64 130))] a := hF.cast (by kernel_rfl)
    replace hM : Mem w0.heap.size w0 [(1, some (.row bb1 23 #[.int .i64 1, .int .i64 1])), (2, some (.row bb2 23 #[.int .i64 0, .int .i64 0])), (3, some (.row bb3 3 #[.int .i64 5, .int .i64 0])), (4, some (.own (.slice AA4 1 cc4) 30 2 1 (flat2 ([(5, 0)]))))] w := hM.cast (by kernel_rfl)
    refine hK10 _ _ ?_
    refine wp_seq_k fun K11 hK11 => ?_
    refine rF (by kernel_rfl) (by kernel_rfl) (fun S a w => ∃ bb5 : Nat, ∃ AA6 : Option Addr, ∃ cc6 : Nat, Fr 253 [(0, some (.bool false)), (1, some (.pointer (some ⟨bb1, 0, none⟩))), (3, some (.pointer (some ⟨bb2, 0, none⟩))), (5, some (.int .i64 130)), (6, (cond (S.getD 7 false) (some (.int .i64 0)) none)), (7, (cond (S.getD 8 false) (some (.int .i64 130)) none)), (44, some (.agg #[.int .i64 0, .int .i64 0, .int .i64 1, .int .i64 0, .int .i64 0, .int .i64 1, .int .i64 1048577, .int .i64 1, .int .i64 1, .int .i64 2097153, .int .i64 (-5), .int .i64 (-5)])), (45, some (.int .i64 0)), (55, (cond (S.getD 4 false) (some (.tuple #[.int .i64 0, .int .i64 130])) none)), (56, (cond (S.getD 0 false) (some (.agg #[.int .i64 0, .int .i64 0])) none)), (57, (cond (S.getD 1 false) (some (.slice (some ⟨bb5, 0, none⟩) 2 2)) none)), (58, (cond (S.getD 2 false) (some (.slice AA6 1 cc6)) none)), (59, (cond (S.getD 3 false) (some (.tuple #[.int .i64 0, .int .i64 130])) none)), (60, (cond (S.getD 5 false) (some (.int .i64 0)) none)), (61, (cond (S.getD 6 false) (some (.int .i64 130)) none))] a ∧ Mem w0.heap.size w0 [(1, some (.row bb1 23 #[.int .i64 1, .int .i64 1])), (2, some (.row bb2 23 #[.int .i64 0, .int .i64 0])), (5, (cond (S.getD 1 false) (some (.row bb5 3 #[.int .i64 5, .int .i64 0])) none)), (6, (cond (S.getD 2 false) (some (.own (.slice AA6 1 cc6) 30 2 1 (flat2 ([(5, 0)])))) none))] w) ?_ ?_ ?_
    · exact ⟨0, none, 0, ((((((((((((((((Fr.nil hF).co hF (i := 61) (by kernel_rfl)).co hF (i := 60) (by kernel_rfl)).co hF (i := 59) (by kernel_rfl)).co hF (i := 58) (by kernel_rfl)).co hF (i := 57) (by kernel_rfl)).co hF (i := 56) (by kernel_rfl)).co hF (i := 55) (by kernel_rfl)).co hF (i := 45) (by kernel_rfl)).co hF (i := 44) (by kernel_rfl)).co hF (i := 7) (by kernel_rfl)).co hF (i := 6) (by kernel_rfl)).co hF (i := 5) (by kernel_rfl)).co hF (i := 3) (by kernel_rfl)).co hF (i := 1) (by kernel_rfl)).co hF (i := 0) (by kernel_rfl)), hM.drew.sub ((((Sub.nil.co (k := 6) (by kernel_rfl)).co (k := 5) (by kernel_rfl)).co (k := 2) (by kernel_rfl)).co (k := 1) (by kernel_rfl))⟩
    · refine stC ?_ (stC ?_ (stC ?_ (stC ?_ (stC ?_ (stC ?_ (stC ?_ (stC ?_ (stC ?_ (trivial)))))))))
      · intro s0 s1 s2 s3 s4 s5 s6 s7 s8 hc hi hp a w hS
        obtain rfl : s0 = false := hi
        obtain ⟨bb5, AA6, cc6, hF, hM⟩ := hS
        refine eL 56 2 0 (v := .agg #[.int .i64 0, .int .i64 0]) hF hM (by kernel_rfl) rfl rfl (by kernel_rfl) (by kernel_rfl) fun a w hF hM => ?_
        exact ⟨bb5, AA6, cc6, ((hF.repl 9 (by kernel_rfl)).cast (by kernel_rfl)), (hM.cast (by kernel_rfl))⟩
      · intro s0 s1 s2 s3 s4 s5 s6 s7 s8 hc hi hp a w hS
        obtain rfl : s1 = false := hi
        obtain ⟨bb5, AA6, cc6, hF, hM⟩ := hS
        refine eN 57 5 (t := 3) (fun b => .slice (some ⟨b, 0, none⟩) 2 2) #[.int .i64 5, .int .i64 0] hF hM (by kernel_rfl) (fun _ => by kernel_rfl) fun bb5 a w hF hM => ?_
        exact ⟨bb5, AA6, cc6, ((hF.repl 10 (by kernel_rfl)).cast (by kernel_rfl)), ((hM.repl 2 (by kernel_rfl)).cast (by kernel_rfl))⟩
      · intro s0 s1 s2 s3 s4 s5 s6 s7 s8 hc hi hp a w hS
        obtain rfl : s2 = false := hi
        obtain rfl : s1 = true := hp 1 (by kernel_rfl)
        obtain ⟨bb5, AA6, cc6, hF, hM⟩ := hS
        refine sOwn 6 (f := 31) (args := #[.slice (some ⟨bb5, 0, none⟩) 2 2]) (mk := fun v => v) (e := 30) (size := 2) (m := 1) (xs := (flat2 ([(5, 0)]))) hF hM (by kernel_rfl) rfl (by decide) (by kernel_rfl) (fun _ => by kernel_rfl) (trace_w (some ⟨bb5, 0, none⟩) [5, 0] 2 w (hM.roRow (k := 5) rfl) (by decide)) fun AA6 cc6 a w hF hM => ?_
        exact ⟨bb5, AA6, cc6, ((hF.repl 11 (by kernel_rfl)).cast (by kernel_rfl)), ((hM.repl 3 (by kernel_rfl)).cast (by kernel_rfl))⟩
      · intro s0 s1 s2 s3 s4 s5 s6 s7 s8 hc hi hp a w hS
        obtain rfl : s3 = false := hi
        obtain rfl : s2 = true := hp 2 (by kernel_rfl)
        obtain rfl : s0 = true := hp 0 (by kernel_rfl)
        obtain ⟨bb5, AA6, cc6, hF, hM⟩ := hS
        refine eM 59 (v := .tuple #[.int .i64 0, .int .i64 130]) hF hM (by kernel_rfl) (Yld.to (yld_call (f := 25) (args := #[.agg #[.int .i64 0, .int .i64 0], .slice AA6 1 cc6]) hF (by kernel_rfl) (fun _ => by kernel_rfl) (fun w hM => bFirst_w 0 0 AA6 ([(5, 0)]) _ w (ro_of_own (hM.ok 6 _ rfl)))) (by kernel_rfl)) fun a w hF hM => ?_
        exact ⟨bb5, AA6, cc6, ((hF.repl 12 (by kernel_rfl)).cast (by kernel_rfl)), (hM.cast (by kernel_rfl))⟩
      · intro s0 s1 s2 s3 s4 s5 s6 s7 s8 hc hi hp a w hS
        obtain rfl : s4 = false := hi
        obtain rfl : s3 = true := hp 3 (by kernel_rfl)
        obtain ⟨bb5, AA6, cc6, hF, hM⟩ := hS
        refine eP 55 (v0 := .tuple #[.int .i64 0, .int .i64 130]) (v := .tuple #[.int .i64 0, .int .i64 130]) hF (by kernel_rfl) (fun _ => by kernel_rfl) rfl fun a hF => ?_
        exact ⟨bb5, AA6, cc6, ((hF.repl 8 (by kernel_rfl)).cast (by kernel_rfl)), (hM.cast (by kernel_rfl))⟩
      · intro s0 s1 s2 s3 s4 s5 s6 s7 s8 hc hi hp a w hS
        obtain rfl : s5 = false := hi
        obtain rfl : s4 = true := hp 4 (by kernel_rfl)
        obtain ⟨bb5, AA6, cc6, hF, hM⟩ := hS
        refine eP 60 (v0 := .int .i64 0) (v := .int .i64 0) hF (by kernel_rfl) (fun _ => by kernel_rfl) rfl fun a hF => ?_
        exact ⟨bb5, AA6, cc6, ((hF.repl 13 (by kernel_rfl)).cast (by kernel_rfl)), (hM.cast (by kernel_rfl))⟩
      · intro s0 s1 s2 s3 s4 s5 s6 s7 s8 hc hi hp a w hS
        obtain rfl : s6 = false := hi
        obtain rfl : s4 = true := hp 4 (by kernel_rfl)
        obtain ⟨bb5, AA6, cc6, hF, hM⟩ := hS
        refine eP 61 (v0 := .int .i64 130) (v := .int .i64 130) hF (by kernel_rfl) (fun _ => by kernel_rfl) rfl fun a hF => ?_
        exact ⟨bb5, AA6, cc6, ((hF.repl 14 (by kernel_rfl)).cast (by kernel_rfl)), (hM.cast (by kernel_rfl))⟩
      · intro s0 s1 s2 s3 s4 s5 s6 s7 s8 hc hi hp a w hS
        obtain rfl : s7 = false := hi
        obtain rfl : s5 = true := hp 5 (by kernel_rfl)
        obtain ⟨bb5, AA6, cc6, hF, hM⟩ := hS
        refine eP 6 (v0 := .int .i64 0) (v := .int .i64 0) hF (by kernel_rfl) (fun _ => by kernel_rfl) rfl fun a hF => ?_
        exact ⟨bb5, AA6, cc6, ((hF.repl 4 (by kernel_rfl)).cast (by kernel_rfl)), (hM.cast (by kernel_rfl))⟩
      · intro s0 s1 s2 s3 s4 s5 s6 s7 s8 hc hi hp a w hS
        obtain rfl : s8 = false := hi
        obtain rfl : s6 = true := hp 6 (by kernel_rfl)
        obtain ⟨bb5, AA6, cc6, hF, hM⟩ := hS
        refine eP 7 (v0 := .int .i64 130) (v := .int .i64 130) hF (by kernel_rfl) (fun _ => by kernel_rfl) rfl fun a hF => ?_
        exact ⟨bb5, AA6, cc6, ((hF.repl 5 (by kernel_rfl)).cast (by kernel_rfl)), (hM.cast (by kernel_rfl))⟩
    · intro a w hS
      obtain ⟨bb5, AA6, cc6, hF, hM⟩ := hS
      replace hF : Fr 253 [(0, some (.bool false)), (1, some (.pointer (some ⟨bb1, 0, none⟩))), (3, some (.pointer (some ⟨bb2, 0, none⟩))), (5, some (.int .i64 130)), (6, some (.int .i64 0)), (7, some (.int .i64 130)), (44, some (.agg #[.int .i64 0, .int .i64 0, .int .i64 1, .int .i64 0, .int .i64 0, .int .i64 1, .int .i64 1048577, .int .i64 1, .int .i64 1, .int .i64 2097153, .int .i64 (-5), .int .i64 (-5)])), (45, some (.int .i64 0)), (55, some (.tuple #[.int .i64 0, .int .i64 130])), (56, some (.agg #[.int .i64 0, .int .i64 0])), (57, some (.slice (some ⟨bb5, 0, none⟩) 2 2)), (58, some (.slice AA6 1 cc6)), (59, some (.tuple #[.int .i64 0, .int .i64 130])), (60, some (.int .i64 0)), (61, some (.int .i64 130))] a := hF.cast (by kernel_rfl)
      replace hM : Mem w0.heap.size w0 [(1, some (.row bb1 23 #[.int .i64 1, .int .i64 1])), (2, some (.row bb2 23 #[.int .i64 0, .int .i64 0])), (5, some (.row bb5 3 #[.int .i64 5, .int .i64 0])), (6, some (.own (.slice AA6 1 cc6) 30 2 1 (flat2 ([(5, 0)]))))] w := hM.cast (by kernel_rfl)
      refine hK11 _ _ ?_
      refine wp_seq_k fun K12 hK12 => ?_
      refine wp_region_lit ?_
      refine wl (eL 63 2 0 (v := .agg #[.int .i64 0, .int .i64 0]) hF hM (by kernel_rfl) rfl rfl (by kernel_rfl) (by kernel_rfl) fun a w hF hM => ?_)
      refine wl (eM 64 (v := .tuple #[.int .i64 0, .int .i64 130]) hF hM (by kernel_rfl) (Yld.to (yld_call (f := 13) (args := #[.agg #[.int .i64 0, .int .i64 0], .int .i64 (-1)]) hF (by kernel_rfl) (fun _ => by kernel_rfl) (fun w hM => bWithin_w 0 0 (-1) w)) (by kernel_rfl)) fun a w hF hM => ?_)
      refine sB 5 [(62, .tuple #[.int .i64 0, .int .i64 130]), (65, .int .i64 0), (66, .int .i64 130), (8, .int .i64 0), (9, .int .i64 130)] hF (by kernel_rfl) fun a hF => ?_
      refine wpList_nil ?_
      refine hK12 _ _ ?_
      refine wp_seq_k fun K13 hK13 => ?_
      refine wp_region_lit ?_
      refine wl (eL 68 1 0 (v := .agg #[.int .i64 1, .int .i64 1]) hF hM (by kernel_rfl) rfl rfl (by kernel_rfl) (by kernel_rfl) fun a w hF hM => ?_)
      refine wl (eL 69 2 0 (v := .agg #[.int .i64 0, .int .i64 0]) hF hM (by kernel_rfl) rfl rfl (by kernel_rfl) (by kernel_rfl) fun a w hF hM => ?_)
      refine wl (eN 70 7 (t := 23) (fun b => .slice (some ⟨b, 0, none⟩) 2 2) #[.int .i64 1, .int .i64 1, .int .i64 0, .int .i64 0] hF hM (by kernel_rfl) (fun _ => by kernel_rfl) fun bb7 a w hF hM => ?_)
      refine wl (eM 71 (v := .tuple #[.agg #[.int .i64 0, .int .i64 0], .int .i64 130]) hF hM (by kernel_rfl) (Yld.to (yld_call (f := 11) (args := #[.slice (some ⟨bb7, 0, none⟩) 2 2]) hF (by kernel_rfl) (fun _ => by kernel_rfl) (fun w hM => bSum_w (some ⟨bb7, 0, none⟩) [(1, 1), (0, 0)] _ w (hM.roRow (k := 7) rfl))) (by kernel_rfl)) fun a w hF hM => ?_)
      refine sB 3 [(67, .tuple #[.agg #[.int .i64 0, .int .i64 0], .int .i64 130]), (72, .agg #[.int .i64 0, .int .i64 0]), (73, .int .i64 130)] hF (by kernel_rfl) fun a hF => ?_
      refine wl (eN 10 8 (t := 23) (fun b => .pointer (some ⟨b, 0, none⟩)) #[.int .i64 0, .int .i64 0] hF hM (by kernel_rfl) (fun _ => by kernel_rfl) fun bb8 a w hF hM => ?_)
      refine wl (sStore (i := 8) (off := 0) (cs' := #[.int .i64 0, .int .i64 0]) hF hM (by kernel_rfl) rfl rfl (by kernel_rfl) (by kernel_rfl) rfl (by kernel_rfl) fun w hM => ?_)
      refine sB 1 [(11, .int .i64 130)] hF (by kernel_rfl) fun a hF => ?_
      refine wpList_nil ?_
      refine hK13 _ _ ?_
      refine wp_seq_k fun K14 hK14 => ?_
      refine wp_region_lit ?_
      refine wl (eL 74 2 0 (v := .agg #[.int .i64 0, .int .i64 0]) hF hM (by kernel_rfl) rfl rfl (by kernel_rfl) (by kernel_rfl) fun a w hF hM => ?_)
      refine wl (eM 75 (v := .int .i64 130) hF hM (by kernel_rfl) (Yld.to (yld_call (f := 15) (args := #[.agg #[.int .i64 0, .int .i64 0]]) hF (by kernel_rfl) (fun _ => by kernel_rfl) (fun w hM => bkCheck_w 0 0 w)) (by kernel_rfl)) fun a w hF hM => ?_)
      refine wl (eP 76 (v0 := .bool (!decide (130 = 130))) (v := .bool false) hF (by kernel_rfl) (fun _ => by kernel_rfl) (nT (by omega)) fun a hF => ?_)
      refine sB 2 [(77, .bool false), (78, .int .i64 130)] hF (by kernel_rfl) fun a hF => ?_
      refine wl (eP 79 (v0 := .bool (!decide (130 = 130))) (v := .bool false) hF (by kernel_rfl) (fun _ => by kernel_rfl) (nT (by omega)) fun a hF => ?_)
      refine sB 3 [(80, .bool false), (81, .bool false), (82, .int .i64 130)] hF (by kernel_rfl) fun a hF => ?_
      refine wl (eP 83 (v0 := .bool (!decide (130 = 130))) (v := .bool false) hF (by kernel_rfl) (fun _ => by kernel_rfl) (nT (by omega)) fun a hF => ?_)
      refine sB 3 [(84, .bool false), (85, .bool false), (86, .int .i64 130)] hF (by kernel_rfl) fun a hF => ?_
      refine wl (eP 87 (v0 := .bool (!decide (130 = 130))) (v := .bool false) hF (by kernel_rfl) (fun _ => by kernel_rfl) (nT (by omega)) fun a hF => ?_)
      refine sB 3 [(88, .bool false), (89, .bool false), (90, .int .i64 130)] hF (by kernel_rfl) fun a hF => ?_
      refine wl (eP 91 (v0 := .bool (!decide (130 = 130))) (v := .bool false) hF (by kernel_rfl) (fun _ => by kernel_rfl) (nT (by omega)) fun a hF => ?_)
      refine sB 1 [(92, .bool false)] hF (by kernel_rfl) fun a hF => ?_
      refine wpList_nil ?_
      refine hK14 _ _ ?_
      refine cF hF (by kernel_rfl) (by kernel_rfl) ?_
      refine wp_skip ?_
      refine hK8 _ _ ?_
      refine wp_region_lit ?_
      refine wl (eP 93 (v0 := .int .i64 (IntKind.i64.wrap (0 + 1))) (v := .int .i64 1) hF (by kernel_rfl) (fun _ => by kernel_rfl) (vi (by decide)) fun a hF => ?_)
      refine sB 1 [(45, .int .i64 1)] hF (by kernel_rfl) fun a hF => ?_
      refine wpList_nil ?_
      refine hK5 _ _ ?_
      refine rounds_k fun K15 hK15 => ?_
      refine wp_seq_k fun K16 hK16 => ?_
      refine wp_region_lit ?_
      refine wl (eP 46 (v0 := .bool (decide (1 < 6))) (v := .bool true) hF (by kernel_rfl) (fun _ => by kernel_rfl) (bT (by omega)) fun a hF => ?_)
      refine wpList_nil ?_
      refine hK16 _ _ ?_
      refine wp_seq_k fun K17 hK17 => ?_
      refine cT hF (by kernel_rfl) (by kernel_rfl) ?_
      refine wp_skip ?_
      refine hK17 _ _ ?_
      refine wp_seq_k fun K18 hK18 => ?_
      refine wp_block ?_
      refine wp_seq_k fun K19 hK19 => ?_
      refine wp_region_lit ?_
      refine sB 1 [(47, .agg #[.int .i64 1, .int .i64 0])] hF (by kernel_rfl) fun a hF => ?_
      refine wl (eN 3 9 (t := 23) (fun b => .pointer (some ⟨b, 0, none⟩)) #[.int .i64 0, .int .i64 0] hF hM (by kernel_rfl) (fun _ => by kernel_rfl) fun bb9 a w hF hM => ?_)
      refine wl (sStore (i := 9) (off := 0) (cs' := #[.int .i64 1, .int .i64 0]) hF hM (by kernel_rfl) rfl rfl (by kernel_rfl) (by kernel_rfl) rfl (by kernel_rfl) fun w hM => ?_)
      refine wpList_nil ?_
      refine hK19 _ _ ?_
      refine wp_seq_k fun K20 hK20 => ?_
      refine rF (by kernel_rfl) (by kernel_rfl) (fun S a w => ∃ bb10 : Nat, ∃ AA11 : Option Addr, ∃ cc11 : Nat, Fr 253 [(0, some (.bool false)), (1, some (.pointer (some ⟨bb1, 0, none⟩))), (3, some (.pointer (some ⟨bb9, 0, none⟩))), (4, (cond (S.getD 7 false) (some (.bool false)) none)), (5, (cond (S.getD 8 false) (some (.int .i64 130)) (some (.int .i64 130)))), (44, some (.agg #[.int .i64 0, .int .i64 0, .int .i64 1, .int .i64 0, .int .i64 0, .int .i64 1, .int .i64 1048577, .int .i64 1, .int .i64 1, .int .i64 2097153, .int .i64 (-5), .int .i64 (-5)])), (45, some (.int .i64 1)), (48, (cond (S.getD 4 false) (some (.tuple #[.bool false, .int .i64 130])) none)), (49, (cond (S.getD 0 false) (some (.agg #[.int .i64 1, .int .i64 0])) none)), (50, (cond (S.getD 1 false) (some (.slice (some ⟨bb10, 0, none⟩) 2 2)) none)), (51, (cond (S.getD 2 false) (some (.slice AA11 1 cc11)) none)), (52, (cond (S.getD 3 false) (some (.tuple #[.bool false, .int .i64 130])) none)), (53, (cond (S.getD 5 false) (some (.bool false)) none)), (54, (cond (S.getD 6 false) (some (.int .i64 130)) none))] a ∧ Mem w0.heap.size w0 [(1, some (.row bb1 23 #[.int .i64 1, .int .i64 1])), (9, some (.row bb9 23 #[.int .i64 1, .int .i64 0])), (10, (cond (S.getD 1 false) (some (.row bb10 3 #[.int .i64 5, .int .i64 0])) none)), (11, (cond (S.getD 2 false) (some (.own (.slice AA11 1 cc11) 30 2 1 (flat2 ([(5, 0)])))) none))] w) ?_ ?_ ?_
      · exact ⟨0, none, 0, (((((((((((((((Fr.nil hF).co hF (i := 54) (by kernel_rfl)).co hF (i := 53) (by kernel_rfl)).co hF (i := 52) (by kernel_rfl)).co hF (i := 51) (by kernel_rfl)).co hF (i := 50) (by kernel_rfl)).co hF (i := 49) (by kernel_rfl)).co hF (i := 48) (by kernel_rfl)).co hF (i := 45) (by kernel_rfl)).co hF (i := 44) (by kernel_rfl)).co hF (i := 5) (by kernel_rfl)).co hF (i := 4) (by kernel_rfl)).co hF (i := 3) (by kernel_rfl)).co hF (i := 1) (by kernel_rfl)).co hF (i := 0) (by kernel_rfl)), hM.drew.sub ((((Sub.nil.co (k := 11) (by kernel_rfl)).co (k := 10) (by kernel_rfl)).co (k := 9) (by kernel_rfl)).co (k := 1) (by kernel_rfl))⟩
      · refine stC ?_ (stC ?_ (stC ?_ (stC ?_ (stC ?_ (stC ?_ (stC ?_ (stC ?_ (stC ?_ (trivial)))))))))
        · intro s0 s1 s2 s3 s4 s5 s6 s7 s8 hc hi hp a w hS
          obtain rfl : s0 = false := hi
          obtain ⟨bb10, AA11, cc11, hF, hM⟩ := hS
          refine eL 49 9 0 (v := .agg #[.int .i64 1, .int .i64 0]) hF hM (by kernel_rfl) rfl rfl (by kernel_rfl) (by kernel_rfl) fun a w hF hM => ?_
          exact ⟨bb10, AA11, cc11, ((hF.repl 8 (by kernel_rfl)).cast (by kernel_rfl)), (hM.cast (by kernel_rfl))⟩
        · intro s0 s1 s2 s3 s4 s5 s6 s7 s8 hc hi hp a w hS
          obtain rfl : s1 = false := hi
          obtain ⟨bb10, AA11, cc11, hF, hM⟩ := hS
          refine eN 50 10 (t := 3) (fun b => .slice (some ⟨b, 0, none⟩) 2 2) #[.int .i64 5, .int .i64 0] hF hM (by kernel_rfl) (fun _ => by kernel_rfl) fun bb10 a w hF hM => ?_
          exact ⟨bb10, AA11, cc11, ((hF.repl 9 (by kernel_rfl)).cast (by kernel_rfl)), ((hM.repl 2 (by kernel_rfl)).cast (by kernel_rfl))⟩
        · intro s0 s1 s2 s3 s4 s5 s6 s7 s8 hc hi hp a w hS
          obtain rfl : s2 = false := hi
          obtain rfl : s1 = true := hp 1 (by kernel_rfl)
          obtain ⟨bb10, AA11, cc11, hF, hM⟩ := hS
          refine sOwn 11 (f := 31) (args := #[.slice (some ⟨bb10, 0, none⟩) 2 2]) (mk := fun v => v) (e := 30) (size := 2) (m := 1) (xs := (flat2 ([(5, 0)]))) hF hM (by kernel_rfl) rfl (by decide) (by kernel_rfl) (fun _ => by kernel_rfl) (trace_w (some ⟨bb10, 0, none⟩) [5, 0] 2 w (hM.roRow (k := 10) rfl) (by decide)) fun AA11 cc11 a w hF hM => ?_
          exact ⟨bb10, AA11, cc11, ((hF.repl 10 (by kernel_rfl)).cast (by kernel_rfl)), ((hM.repl 3 (by kernel_rfl)).cast (by kernel_rfl))⟩
        · intro s0 s1 s2 s3 s4 s5 s6 s7 s8 hc hi hp a w hS
          obtain rfl : s3 = false := hi
          obtain rfl : s2 = true := hp 2 (by kernel_rfl)
          obtain rfl : s0 = true := hp 0 (by kernel_rfl)
          obtain ⟨bb10, AA11, cc11, hF, hM⟩ := hS
          refine eM 52 (v := .tuple #[.bool false, .int .i64 130]) hF hM (by kernel_rfl) (Yld.to (yld_call (f := 23) (args := #[.agg #[.int .i64 1, .int .i64 0], .slice AA11 1 cc11]) hF (by kernel_rfl) (fun _ => by kernel_rfl) (fun w hM => conforms_w 1 0 AA11 ([(5, 0)]) _ w (ro_of_own (hM.ok 11 _ rfl)))) (by kernel_rfl)) fun a w hF hM => ?_
          exact ⟨bb10, AA11, cc11, ((hF.repl 11 (by kernel_rfl)).cast (by kernel_rfl)), (hM.cast (by kernel_rfl))⟩
        · intro s0 s1 s2 s3 s4 s5 s6 s7 s8 hc hi hp a w hS
          obtain rfl : s4 = false := hi
          obtain rfl : s3 = true := hp 3 (by kernel_rfl)
          obtain ⟨bb10, AA11, cc11, hF, hM⟩ := hS
          refine eP 48 (v0 := .tuple #[.bool false, .int .i64 130]) (v := .tuple #[.bool false, .int .i64 130]) hF (by kernel_rfl) (fun _ => by kernel_rfl) rfl fun a hF => ?_
          exact ⟨bb10, AA11, cc11, ((hF.repl 7 (by kernel_rfl)).cast (by kernel_rfl)), (hM.cast (by kernel_rfl))⟩
        · intro s0 s1 s2 s3 s4 s5 s6 s7 s8 hc hi hp a w hS
          obtain rfl : s5 = false := hi
          obtain rfl : s4 = true := hp 4 (by kernel_rfl)
          obtain ⟨bb10, AA11, cc11, hF, hM⟩ := hS
          refine eP 53 (v0 := .bool false) (v := .bool false) hF (by kernel_rfl) (fun _ => by kernel_rfl) rfl fun a hF => ?_
          exact ⟨bb10, AA11, cc11, ((hF.repl 12 (by kernel_rfl)).cast (by kernel_rfl)), (hM.cast (by kernel_rfl))⟩
        · intro s0 s1 s2 s3 s4 s5 s6 s7 s8 hc hi hp a w hS
          obtain rfl : s6 = false := hi
          obtain rfl : s4 = true := hp 4 (by kernel_rfl)
          obtain ⟨bb10, AA11, cc11, hF, hM⟩ := hS
          refine eP 54 (v0 := .int .i64 130) (v := .int .i64 130) hF (by kernel_rfl) (fun _ => by kernel_rfl) rfl fun a hF => ?_
          exact ⟨bb10, AA11, cc11, ((hF.repl 13 (by kernel_rfl)).cast (by kernel_rfl)), (hM.cast (by kernel_rfl))⟩
        · intro s0 s1 s2 s3 s4 s5 s6 s7 s8 hc hi hp a w hS
          obtain rfl : s7 = false := hi
          obtain rfl : s5 = true := hp 5 (by kernel_rfl)
          obtain ⟨bb10, AA11, cc11, hF, hM⟩ := hS
          refine eP 4 (v0 := .bool false) (v := .bool false) hF (by kernel_rfl) (fun _ => by kernel_rfl) rfl fun a hF => ?_
          exact ⟨bb10, AA11, cc11, ((hF.repl 3 (by kernel_rfl)).cast (by kernel_rfl)), (hM.cast (by kernel_rfl))⟩
        · intro s0 s1 s2 s3 s4 s5 s6 s7 s8 hc hi hp a w hS
          obtain rfl : s8 = false := hi
          obtain rfl : s6 = true := hp 6 (by kernel_rfl)
          obtain ⟨bb10, AA11, cc11, hF, hM⟩ := hS
          refine eP 5 (v0 := .int .i64 130) (v := .int .i64 130) hF (by kernel_rfl) (fun _ => by kernel_rfl) rfl fun a hF => ?_
          exact ⟨bb10, AA11, cc11, ((hF.repl 4 (by kernel_rfl)).cast (by kernel_rfl)), (hM.cast (by kernel_rfl))⟩
      · intro a w hS
        obtain ⟨bb10, AA11, cc11, hF, hM⟩ := hS
        replace hF : Fr 253 [(0, some (.bool false)), (1, some (.pointer (some ⟨bb1, 0, none⟩))), (3, some (.pointer (some ⟨bb9, 0, none⟩))), (4, some (.bool false)), (5, some (.int .i64 130)), (44, some (.agg #[.int .i64 0, .int .i64 0, .int .i64 1, .int .i64 0, .int .i64 0, .int .i64 1, .int .i64 1048577, .int .i64 1, .int .i64 1, .int .i64 2097153, .int .i64 (-5), .int .i64 (-5)])), (45, some (.int .i64 1)), (48, some (.tuple #[.bool false, .int .i64 130])), (49, some (.agg #[.int .i64 1, .int .i64 0])), (50, some (.slice (some ⟨bb10, 0, none⟩) 2 2)), (51, some (.slice AA11 1 cc11)), (52, some (.tuple #[.bool false, .int .i64 130])), (53, some (.bool false)), (54, some (.int .i64 130))] a := hF.cast (by kernel_rfl)
        replace hM : Mem w0.heap.size w0 [(1, some (.row bb1 23 #[.int .i64 1, .int .i64 1])), (9, some (.row bb9 23 #[.int .i64 1, .int .i64 0])), (10, some (.row bb10 3 #[.int .i64 5, .int .i64 0])), (11, some (.own (.slice AA11 1 cc11) 30 2 1 (flat2 ([(5, 0)]))))] w := hM.cast (by kernel_rfl)
        refine hK20 _ _ ?_
        refine wp_seq_k fun K21 hK21 => ?_
        refine rF (by kernel_rfl) (by kernel_rfl) (fun S a w => ∃ bb12 : Nat, ∃ AA13 : Option Addr, ∃ cc13 : Nat, Fr 253 [(0, some (.bool false)), (1, some (.pointer (some ⟨bb1, 0, none⟩))), (3, some (.pointer (some ⟨bb9, 0, none⟩))), (5, some (.int .i64 130)), (6, (cond (S.getD 7 false) (some (.int .i64 0)) none)), (7, (cond (S.getD 8 false) (some (.int .i64 130)) none)), (44, some (.agg #[.int .i64 0, .int .i64 0, .int .i64 1, .int .i64 0, .int .i64 0, .int .i64 1, .int .i64 1048577, .int .i64 1, .int .i64 1, .int .i64 2097153, .int .i64 (-5), .int .i64 (-5)])), (45, some (.int .i64 1)), (55, (cond (S.getD 4 false) (some (.tuple #[.int .i64 0, .int .i64 130])) none)), (56, (cond (S.getD 0 false) (some (.agg #[.int .i64 1, .int .i64 0])) none)), (57, (cond (S.getD 1 false) (some (.slice (some ⟨bb12, 0, none⟩) 2 2)) none)), (58, (cond (S.getD 2 false) (some (.slice AA13 1 cc13)) none)), (59, (cond (S.getD 3 false) (some (.tuple #[.int .i64 0, .int .i64 130])) none)), (60, (cond (S.getD 5 false) (some (.int .i64 0)) none)), (61, (cond (S.getD 6 false) (some (.int .i64 130)) none))] a ∧ Mem w0.heap.size w0 [(1, some (.row bb1 23 #[.int .i64 1, .int .i64 1])), (9, some (.row bb9 23 #[.int .i64 1, .int .i64 0])), (12, (cond (S.getD 1 false) (some (.row bb12 3 #[.int .i64 5, .int .i64 0])) none)), (13, (cond (S.getD 2 false) (some (.own (.slice AA13 1 cc13) 30 2 1 (flat2 ([(5, 0)])))) none))] w) ?_ ?_ ?_
        · exact ⟨0, none, 0, ((((((((((((((((Fr.nil hF).co hF (i := 61) (by kernel_rfl)).co hF (i := 60) (by kernel_rfl)).co hF (i := 59) (by kernel_rfl)).co hF (i := 58) (by kernel_rfl)).co hF (i := 57) (by kernel_rfl)).co hF (i := 56) (by kernel_rfl)).co hF (i := 55) (by kernel_rfl)).co hF (i := 45) (by kernel_rfl)).co hF (i := 44) (by kernel_rfl)).co hF (i := 7) (by kernel_rfl)).co hF (i := 6) (by kernel_rfl)).co hF (i := 5) (by kernel_rfl)).co hF (i := 3) (by kernel_rfl)).co hF (i := 1) (by kernel_rfl)).co hF (i := 0) (by kernel_rfl)), hM.drew.sub ((((Sub.nil.co (k := 13) (by kernel_rfl)).co (k := 12) (by kernel_rfl)).co (k := 9) (by kernel_rfl)).co (k := 1) (by kernel_rfl))⟩
        · refine stC ?_ (stC ?_ (stC ?_ (stC ?_ (stC ?_ (stC ?_ (stC ?_ (stC ?_ (stC ?_ (trivial)))))))))
          · intro s0 s1 s2 s3 s4 s5 s6 s7 s8 hc hi hp a w hS
            obtain rfl : s0 = false := hi
            obtain ⟨bb12, AA13, cc13, hF, hM⟩ := hS
            refine eL 56 9 0 (v := .agg #[.int .i64 1, .int .i64 0]) hF hM (by kernel_rfl) rfl rfl (by kernel_rfl) (by kernel_rfl) fun a w hF hM => ?_
            exact ⟨bb12, AA13, cc13, ((hF.repl 9 (by kernel_rfl)).cast (by kernel_rfl)), (hM.cast (by kernel_rfl))⟩
          · intro s0 s1 s2 s3 s4 s5 s6 s7 s8 hc hi hp a w hS
            obtain rfl : s1 = false := hi
            obtain ⟨bb12, AA13, cc13, hF, hM⟩ := hS
            refine eN 57 12 (t := 3) (fun b => .slice (some ⟨b, 0, none⟩) 2 2) #[.int .i64 5, .int .i64 0] hF hM (by kernel_rfl) (fun _ => by kernel_rfl) fun bb12 a w hF hM => ?_
            exact ⟨bb12, AA13, cc13, ((hF.repl 10 (by kernel_rfl)).cast (by kernel_rfl)), ((hM.repl 2 (by kernel_rfl)).cast (by kernel_rfl))⟩
          · intro s0 s1 s2 s3 s4 s5 s6 s7 s8 hc hi hp a w hS
            obtain rfl : s2 = false := hi
            obtain rfl : s1 = true := hp 1 (by kernel_rfl)
            obtain ⟨bb12, AA13, cc13, hF, hM⟩ := hS
            refine sOwn 13 (f := 31) (args := #[.slice (some ⟨bb12, 0, none⟩) 2 2]) (mk := fun v => v) (e := 30) (size := 2) (m := 1) (xs := (flat2 ([(5, 0)]))) hF hM (by kernel_rfl) rfl (by decide) (by kernel_rfl) (fun _ => by kernel_rfl) (trace_w (some ⟨bb12, 0, none⟩) [5, 0] 2 w (hM.roRow (k := 12) rfl) (by decide)) fun AA13 cc13 a w hF hM => ?_
            exact ⟨bb12, AA13, cc13, ((hF.repl 11 (by kernel_rfl)).cast (by kernel_rfl)), ((hM.repl 3 (by kernel_rfl)).cast (by kernel_rfl))⟩
          · intro s0 s1 s2 s3 s4 s5 s6 s7 s8 hc hi hp a w hS
            obtain rfl : s3 = false := hi
            obtain rfl : s2 = true := hp 2 (by kernel_rfl)
            obtain rfl : s0 = true := hp 0 (by kernel_rfl)
            obtain ⟨bb12, AA13, cc13, hF, hM⟩ := hS
            refine eM 59 (v := .tuple #[.int .i64 0, .int .i64 130]) hF hM (by kernel_rfl) (Yld.to (yld_call (f := 25) (args := #[.agg #[.int .i64 1, .int .i64 0], .slice AA13 1 cc13]) hF (by kernel_rfl) (fun _ => by kernel_rfl) (fun w hM => bFirst_w 1 0 AA13 ([(5, 0)]) _ w (ro_of_own (hM.ok 13 _ rfl)))) (by kernel_rfl)) fun a w hF hM => ?_
            exact ⟨bb12, AA13, cc13, ((hF.repl 12 (by kernel_rfl)).cast (by kernel_rfl)), (hM.cast (by kernel_rfl))⟩
          · intro s0 s1 s2 s3 s4 s5 s6 s7 s8 hc hi hp a w hS
            obtain rfl : s4 = false := hi
            obtain rfl : s3 = true := hp 3 (by kernel_rfl)
            obtain ⟨bb12, AA13, cc13, hF, hM⟩ := hS
            refine eP 55 (v0 := .tuple #[.int .i64 0, .int .i64 130]) (v := .tuple #[.int .i64 0, .int .i64 130]) hF (by kernel_rfl) (fun _ => by kernel_rfl) rfl fun a hF => ?_
            exact ⟨bb12, AA13, cc13, ((hF.repl 8 (by kernel_rfl)).cast (by kernel_rfl)), (hM.cast (by kernel_rfl))⟩
          · intro s0 s1 s2 s3 s4 s5 s6 s7 s8 hc hi hp a w hS
            obtain rfl : s5 = false := hi
            obtain rfl : s4 = true := hp 4 (by kernel_rfl)
            obtain ⟨bb12, AA13, cc13, hF, hM⟩ := hS
            refine eP 60 (v0 := .int .i64 0) (v := .int .i64 0) hF (by kernel_rfl) (fun _ => by kernel_rfl) rfl fun a hF => ?_
            exact ⟨bb12, AA13, cc13, ((hF.repl 13 (by kernel_rfl)).cast (by kernel_rfl)), (hM.cast (by kernel_rfl))⟩
          · intro s0 s1 s2 s3 s4 s5 s6 s7 s8 hc hi hp a w hS
            obtain rfl : s6 = false := hi
            obtain rfl : s4 = true := hp 4 (by kernel_rfl)
            obtain ⟨bb12, AA13, cc13, hF, hM⟩ := hS
            refine eP 61 (v0 := .int .i64 130) (v := .int .i64 130) hF (by kernel_rfl) (fun _ => by kernel_rfl) rfl fun a hF => ?_
            exact ⟨bb12, AA13, cc13, ((hF.repl 14 (by kernel_rfl)).cast (by kernel_rfl)), (hM.cast (by kernel_rfl))⟩
          · intro s0 s1 s2 s3 s4 s5 s6 s7 s8 hc hi hp a w hS
            obtain rfl : s7 = false := hi
            obtain rfl : s5 = true := hp 5 (by kernel_rfl)
            obtain ⟨bb12, AA13, cc13, hF, hM⟩ := hS
            refine eP 6 (v0 := .int .i64 0) (v := .int .i64 0) hF (by kernel_rfl) (fun _ => by kernel_rfl) rfl fun a hF => ?_
            exact ⟨bb12, AA13, cc13, ((hF.repl 4 (by kernel_rfl)).cast (by kernel_rfl)), (hM.cast (by kernel_rfl))⟩
          · intro s0 s1 s2 s3 s4 s5 s6 s7 s8 hc hi hp a w hS
            obtain rfl : s8 = false := hi
            obtain rfl : s6 = true := hp 6 (by kernel_rfl)
            obtain ⟨bb12, AA13, cc13, hF, hM⟩ := hS
            refine eP 7 (v0 := .int .i64 130) (v := .int .i64 130) hF (by kernel_rfl) (fun _ => by kernel_rfl) rfl fun a hF => ?_
            exact ⟨bb12, AA13, cc13, ((hF.repl 5 (by kernel_rfl)).cast (by kernel_rfl)), (hM.cast (by kernel_rfl))⟩
        · intro a w hS
          obtain ⟨bb12, AA13, cc13, hF, hM⟩ := hS
          replace hF : Fr 253 [(0, some (.bool false)), (1, some (.pointer (some ⟨bb1, 0, none⟩))), (3, some (.pointer (some ⟨bb9, 0, none⟩))), (5, some (.int .i64 130)), (6, some (.int .i64 0)), (7, some (.int .i64 130)), (44, some (.agg #[.int .i64 0, .int .i64 0, .int .i64 1, .int .i64 0, .int .i64 0, .int .i64 1, .int .i64 1048577, .int .i64 1, .int .i64 1, .int .i64 2097153, .int .i64 (-5), .int .i64 (-5)])), (45, some (.int .i64 1)), (55, some (.tuple #[.int .i64 0, .int .i64 130])), (56, some (.agg #[.int .i64 1, .int .i64 0])), (57, some (.slice (some ⟨bb12, 0, none⟩) 2 2)), (58, some (.slice AA13 1 cc13)), (59, some (.tuple #[.int .i64 0, .int .i64 130])), (60, some (.int .i64 0)), (61, some (.int .i64 130))] a := hF.cast (by kernel_rfl)
          replace hM : Mem w0.heap.size w0 [(1, some (.row bb1 23 #[.int .i64 1, .int .i64 1])), (9, some (.row bb9 23 #[.int .i64 1, .int .i64 0])), (12, some (.row bb12 3 #[.int .i64 5, .int .i64 0])), (13, some (.own (.slice AA13 1 cc13) 30 2 1 (flat2 ([(5, 0)]))))] w := hM.cast (by kernel_rfl)
          refine hK21 _ _ ?_
          refine wp_seq_k fun K22 hK22 => ?_
          refine wp_region_lit ?_
          refine wl (eL 63 9 0 (v := .agg #[.int .i64 1, .int .i64 0]) hF hM (by kernel_rfl) rfl rfl (by kernel_rfl) (by kernel_rfl) fun a w hF hM => ?_)
          refine wl (eM 64 (v := .tuple #[.int .i64 0, .int .i64 130]) hF hM (by kernel_rfl) (Yld.to (yld_call (f := 13) (args := #[.agg #[.int .i64 1, .int .i64 0], .int .i64 (-1)]) hF (by kernel_rfl) (fun _ => by kernel_rfl) (fun w hM => bWithin_w 1 0 (-1) w)) (by kernel_rfl)) fun a w hF hM => ?_)
          refine sB 5 [(62, .tuple #[.int .i64 0, .int .i64 130]), (65, .int .i64 0), (66, .int .i64 130), (8, .int .i64 0), (9, .int .i64 130)] hF (by kernel_rfl) fun a hF => ?_
          refine wpList_nil ?_
          refine hK22 _ _ ?_
          refine wp_seq_k fun K23 hK23 => ?_
          refine wp_region_lit ?_
          refine wl (eL 68 1 0 (v := .agg #[.int .i64 1, .int .i64 1]) hF hM (by kernel_rfl) rfl rfl (by kernel_rfl) (by kernel_rfl) fun a w hF hM => ?_)
          refine wl (eL 69 9 0 (v := .agg #[.int .i64 1, .int .i64 0]) hF hM (by kernel_rfl) rfl rfl (by kernel_rfl) (by kernel_rfl) fun a w hF hM => ?_)
          refine wl (eN 70 14 (t := 23) (fun b => .slice (some ⟨b, 0, none⟩) 2 2) #[.int .i64 1, .int .i64 1, .int .i64 1, .int .i64 0] hF hM (by kernel_rfl) (fun _ => by kernel_rfl) fun bb14 a w hF hM => ?_)
          refine wl (eM 71 (v := .tuple #[.agg #[.int .i64 0, .int .i64 0], .int .i64 130]) hF hM (by kernel_rfl) (Yld.to (yld_call (f := 11) (args := #[.slice (some ⟨bb14, 0, none⟩) 2 2]) hF (by kernel_rfl) (fun _ => by kernel_rfl) (fun w hM => bSum_w (some ⟨bb14, 0, none⟩) [(1, 1), (1, 0)] _ w (hM.roRow (k := 14) rfl))) (by kernel_rfl)) fun a w hF hM => ?_)
          refine sB 3 [(67, .tuple #[.agg #[.int .i64 0, .int .i64 0], .int .i64 130]), (72, .agg #[.int .i64 0, .int .i64 0]), (73, .int .i64 130)] hF (by kernel_rfl) fun a hF => ?_
          refine wl (eN 10 15 (t := 23) (fun b => .pointer (some ⟨b, 0, none⟩)) #[.int .i64 0, .int .i64 0] hF hM (by kernel_rfl) (fun _ => by kernel_rfl) fun bb15 a w hF hM => ?_)
          refine wl (sStore (i := 15) (off := 0) (cs' := #[.int .i64 0, .int .i64 0]) hF hM (by kernel_rfl) rfl rfl (by kernel_rfl) (by kernel_rfl) rfl (by kernel_rfl) fun w hM => ?_)
          refine sB 1 [(11, .int .i64 130)] hF (by kernel_rfl) fun a hF => ?_
          refine wpList_nil ?_
          refine hK23 _ _ ?_
          refine wp_seq_k fun K24 hK24 => ?_
          refine wp_region_lit ?_
          refine wl (eL 74 9 0 (v := .agg #[.int .i64 1, .int .i64 0]) hF hM (by kernel_rfl) rfl rfl (by kernel_rfl) (by kernel_rfl) fun a w hF hM => ?_)
          refine wl (eM 75 (v := .int .i64 130) hF hM (by kernel_rfl) (Yld.to (yld_call (f := 15) (args := #[.agg #[.int .i64 1, .int .i64 0]]) hF (by kernel_rfl) (fun _ => by kernel_rfl) (fun w hM => bkCheck_w 1 0 w)) (by kernel_rfl)) fun a w hF hM => ?_)
          refine wl (eP 76 (v0 := .bool (!decide (130 = 130))) (v := .bool false) hF (by kernel_rfl) (fun _ => by kernel_rfl) (nT (by omega)) fun a hF => ?_)
          refine sB 2 [(77, .bool false), (78, .int .i64 130)] hF (by kernel_rfl) fun a hF => ?_
          refine wl (eP 79 (v0 := .bool (!decide (130 = 130))) (v := .bool false) hF (by kernel_rfl) (fun _ => by kernel_rfl) (nT (by omega)) fun a hF => ?_)
          refine sB 3 [(80, .bool false), (81, .bool false), (82, .int .i64 130)] hF (by kernel_rfl) fun a hF => ?_
          refine wl (eP 83 (v0 := .bool (!decide (130 = 130))) (v := .bool false) hF (by kernel_rfl) (fun _ => by kernel_rfl) (nT (by omega)) fun a hF => ?_)
          refine sB 3 [(84, .bool false), (85, .bool false), (86, .int .i64 130)] hF (by kernel_rfl) fun a hF => ?_
          refine wl (eP 87 (v0 := .bool (!decide (130 = 130))) (v := .bool false) hF (by kernel_rfl) (fun _ => by kernel_rfl) (nT (by omega)) fun a hF => ?_)
          refine sB 3 [(88, .bool false), (89, .bool false), (90, .int .i64 130)] hF (by kernel_rfl) fun a hF => ?_
          refine wl (eP 91 (v0 := .bool (!decide (130 = 130))) (v := .bool false) hF (by kernel_rfl) (fun _ => by kernel_rfl) (nT (by omega)) fun a hF => ?_)
          refine sB 1 [(92, .bool false)] hF (by kernel_rfl) fun a hF => ?_
          refine wpList_nil ?_
          refine hK24 _ _ ?_
          refine cF hF (by kernel_rfl) (by kernel_rfl) ?_
          refine wp_skip ?_
          refine hK18 _ _ ?_
          refine wp_region_lit ?_
          refine wl (eP 93 (v0 := .int .i64 (IntKind.i64.wrap (1 + 1))) (v := .int .i64 2) hF (by kernel_rfl) (fun _ => by kernel_rfl) (vi (by decide)) fun a hF => ?_)
          refine sB 1 [(45, .int .i64 2)] hF (by kernel_rfl) fun a hF => ?_
          refine wpList_nil ?_
          refine hK15 _ _ ?_
          refine rounds_k fun K25 hK25 => ?_
          refine wp_seq_k fun K26 hK26 => ?_
          refine wp_region_lit ?_
          refine wl (eP 46 (v0 := .bool (decide (2 < 6))) (v := .bool true) hF (by kernel_rfl) (fun _ => by kernel_rfl) (bT (by omega)) fun a hF => ?_)
          refine wpList_nil ?_
          refine hK26 _ _ ?_
          refine wp_seq_k fun K27 hK27 => ?_
          refine cT hF (by kernel_rfl) (by kernel_rfl) ?_
          refine wp_skip ?_
          refine hK27 _ _ ?_
          refine wp_seq_k fun K28 hK28 => ?_
          refine wp_block ?_
          refine wp_seq_k fun K29 hK29 => ?_
          refine wp_region_lit ?_
          refine sB 1 [(47, .agg #[.int .i64 0, .int .i64 1])] hF (by kernel_rfl) fun a hF => ?_
          refine wl (eN 3 16 (t := 23) (fun b => .pointer (some ⟨b, 0, none⟩)) #[.int .i64 0, .int .i64 0] hF hM (by kernel_rfl) (fun _ => by kernel_rfl) fun bb16 a w hF hM => ?_)
          refine wl (sStore (i := 16) (off := 0) (cs' := #[.int .i64 0, .int .i64 1]) hF hM (by kernel_rfl) rfl rfl (by kernel_rfl) (by kernel_rfl) rfl (by kernel_rfl) fun w hM => ?_)
          refine wpList_nil ?_
          refine hK29 _ _ ?_
          refine wp_seq_k fun K30 hK30 => ?_
          refine rF (by kernel_rfl) (by kernel_rfl) (fun S a w => ∃ bb17 : Nat, ∃ AA18 : Option Addr, ∃ cc18 : Nat, Fr 253 [(0, some (.bool false)), (1, some (.pointer (some ⟨bb1, 0, none⟩))), (3, some (.pointer (some ⟨bb16, 0, none⟩))), (4, (cond (S.getD 7 false) (some (.bool false)) none)), (5, (cond (S.getD 8 false) (some (.int .i64 130)) (some (.int .i64 130)))), (44, some (.agg #[.int .i64 0, .int .i64 0, .int .i64 1, .int .i64 0, .int .i64 0, .int .i64 1, .int .i64 1048577, .int .i64 1, .int .i64 1, .int .i64 2097153, .int .i64 (-5), .int .i64 (-5)])), (45, some (.int .i64 2)), (48, (cond (S.getD 4 false) (some (.tuple #[.bool false, .int .i64 130])) none)), (49, (cond (S.getD 0 false) (some (.agg #[.int .i64 0, .int .i64 1])) none)), (50, (cond (S.getD 1 false) (some (.slice (some ⟨bb17, 0, none⟩) 2 2)) none)), (51, (cond (S.getD 2 false) (some (.slice AA18 1 cc18)) none)), (52, (cond (S.getD 3 false) (some (.tuple #[.bool false, .int .i64 130])) none)), (53, (cond (S.getD 5 false) (some (.bool false)) none)), (54, (cond (S.getD 6 false) (some (.int .i64 130)) none))] a ∧ Mem w0.heap.size w0 [(1, some (.row bb1 23 #[.int .i64 1, .int .i64 1])), (16, some (.row bb16 23 #[.int .i64 0, .int .i64 1])), (17, (cond (S.getD 1 false) (some (.row bb17 3 #[.int .i64 5, .int .i64 0])) none)), (18, (cond (S.getD 2 false) (some (.own (.slice AA18 1 cc18) 30 2 1 (flat2 ([(5, 0)])))) none))] w) ?_ ?_ ?_
          · exact ⟨0, none, 0, (((((((((((((((Fr.nil hF).co hF (i := 54) (by kernel_rfl)).co hF (i := 53) (by kernel_rfl)).co hF (i := 52) (by kernel_rfl)).co hF (i := 51) (by kernel_rfl)).co hF (i := 50) (by kernel_rfl)).co hF (i := 49) (by kernel_rfl)).co hF (i := 48) (by kernel_rfl)).co hF (i := 45) (by kernel_rfl)).co hF (i := 44) (by kernel_rfl)).co hF (i := 5) (by kernel_rfl)).co hF (i := 4) (by kernel_rfl)).co hF (i := 3) (by kernel_rfl)).co hF (i := 1) (by kernel_rfl)).co hF (i := 0) (by kernel_rfl)), hM.drew.sub ((((Sub.nil.co (k := 18) (by kernel_rfl)).co (k := 17) (by kernel_rfl)).co (k := 16) (by kernel_rfl)).co (k := 1) (by kernel_rfl))⟩
          · refine stC ?_ (stC ?_ (stC ?_ (stC ?_ (stC ?_ (stC ?_ (stC ?_ (stC ?_ (stC ?_ (trivial)))))))))
            · intro s0 s1 s2 s3 s4 s5 s6 s7 s8 hc hi hp a w hS
              obtain rfl : s0 = false := hi
              obtain ⟨bb17, AA18, cc18, hF, hM⟩ := hS
              refine eL 49 16 0 (v := .agg #[.int .i64 0, .int .i64 1]) hF hM (by kernel_rfl) rfl rfl (by kernel_rfl) (by kernel_rfl) fun a w hF hM => ?_
              exact ⟨bb17, AA18, cc18, ((hF.repl 8 (by kernel_rfl)).cast (by kernel_rfl)), (hM.cast (by kernel_rfl))⟩
            · intro s0 s1 s2 s3 s4 s5 s6 s7 s8 hc hi hp a w hS
              obtain rfl : s1 = false := hi
              obtain ⟨bb17, AA18, cc18, hF, hM⟩ := hS
              refine eN 50 17 (t := 3) (fun b => .slice (some ⟨b, 0, none⟩) 2 2) #[.int .i64 5, .int .i64 0] hF hM (by kernel_rfl) (fun _ => by kernel_rfl) fun bb17 a w hF hM => ?_
              exact ⟨bb17, AA18, cc18, ((hF.repl 9 (by kernel_rfl)).cast (by kernel_rfl)), ((hM.repl 2 (by kernel_rfl)).cast (by kernel_rfl))⟩
            · intro s0 s1 s2 s3 s4 s5 s6 s7 s8 hc hi hp a w hS
              obtain rfl : s2 = false := hi
              obtain rfl : s1 = true := hp 1 (by kernel_rfl)
              obtain ⟨bb17, AA18, cc18, hF, hM⟩ := hS
              refine sOwn 18 (f := 31) (args := #[.slice (some ⟨bb17, 0, none⟩) 2 2]) (mk := fun v => v) (e := 30) (size := 2) (m := 1) (xs := (flat2 ([(5, 0)]))) hF hM (by kernel_rfl) rfl (by decide) (by kernel_rfl) (fun _ => by kernel_rfl) (trace_w (some ⟨bb17, 0, none⟩) [5, 0] 2 w (hM.roRow (k := 17) rfl) (by decide)) fun AA18 cc18 a w hF hM => ?_
              exact ⟨bb17, AA18, cc18, ((hF.repl 10 (by kernel_rfl)).cast (by kernel_rfl)), ((hM.repl 3 (by kernel_rfl)).cast (by kernel_rfl))⟩
            · intro s0 s1 s2 s3 s4 s5 s6 s7 s8 hc hi hp a w hS
              obtain rfl : s3 = false := hi
              obtain rfl : s2 = true := hp 2 (by kernel_rfl)
              obtain rfl : s0 = true := hp 0 (by kernel_rfl)
              obtain ⟨bb17, AA18, cc18, hF, hM⟩ := hS
              refine eM 52 (v := .tuple #[.bool false, .int .i64 130]) hF hM (by kernel_rfl) (Yld.to (yld_call (f := 23) (args := #[.agg #[.int .i64 0, .int .i64 1], .slice AA18 1 cc18]) hF (by kernel_rfl) (fun _ => by kernel_rfl) (fun w hM => conforms_w 0 1 AA18 ([(5, 0)]) _ w (ro_of_own (hM.ok 18 _ rfl)))) (by kernel_rfl)) fun a w hF hM => ?_
              exact ⟨bb17, AA18, cc18, ((hF.repl 11 (by kernel_rfl)).cast (by kernel_rfl)), (hM.cast (by kernel_rfl))⟩
            · intro s0 s1 s2 s3 s4 s5 s6 s7 s8 hc hi hp a w hS
              obtain rfl : s4 = false := hi
              obtain rfl : s3 = true := hp 3 (by kernel_rfl)
              obtain ⟨bb17, AA18, cc18, hF, hM⟩ := hS
              refine eP 48 (v0 := .tuple #[.bool false, .int .i64 130]) (v := .tuple #[.bool false, .int .i64 130]) hF (by kernel_rfl) (fun _ => by kernel_rfl) rfl fun a hF => ?_
              exact ⟨bb17, AA18, cc18, ((hF.repl 7 (by kernel_rfl)).cast (by kernel_rfl)), (hM.cast (by kernel_rfl))⟩
            · intro s0 s1 s2 s3 s4 s5 s6 s7 s8 hc hi hp a w hS
              obtain rfl : s5 = false := hi
              obtain rfl : s4 = true := hp 4 (by kernel_rfl)
              obtain ⟨bb17, AA18, cc18, hF, hM⟩ := hS
              refine eP 53 (v0 := .bool false) (v := .bool false) hF (by kernel_rfl) (fun _ => by kernel_rfl) rfl fun a hF => ?_
              exact ⟨bb17, AA18, cc18, ((hF.repl 12 (by kernel_rfl)).cast (by kernel_rfl)), (hM.cast (by kernel_rfl))⟩
            · intro s0 s1 s2 s3 s4 s5 s6 s7 s8 hc hi hp a w hS
              obtain rfl : s6 = false := hi
              obtain rfl : s4 = true := hp 4 (by kernel_rfl)
              obtain ⟨bb17, AA18, cc18, hF, hM⟩ := hS
              refine eP 54 (v0 := .int .i64 130) (v := .int .i64 130) hF (by kernel_rfl) (fun _ => by kernel_rfl) rfl fun a hF => ?_
              exact ⟨bb17, AA18, cc18, ((hF.repl 13 (by kernel_rfl)).cast (by kernel_rfl)), (hM.cast (by kernel_rfl))⟩
            · intro s0 s1 s2 s3 s4 s5 s6 s7 s8 hc hi hp a w hS
              obtain rfl : s7 = false := hi
              obtain rfl : s5 = true := hp 5 (by kernel_rfl)
              obtain ⟨bb17, AA18, cc18, hF, hM⟩ := hS
              refine eP 4 (v0 := .bool false) (v := .bool false) hF (by kernel_rfl) (fun _ => by kernel_rfl) rfl fun a hF => ?_
              exact ⟨bb17, AA18, cc18, ((hF.repl 3 (by kernel_rfl)).cast (by kernel_rfl)), (hM.cast (by kernel_rfl))⟩
            · intro s0 s1 s2 s3 s4 s5 s6 s7 s8 hc hi hp a w hS
              obtain rfl : s8 = false := hi
              obtain rfl : s6 = true := hp 6 (by kernel_rfl)
              obtain ⟨bb17, AA18, cc18, hF, hM⟩ := hS
              refine eP 5 (v0 := .int .i64 130) (v := .int .i64 130) hF (by kernel_rfl) (fun _ => by kernel_rfl) rfl fun a hF => ?_
              exact ⟨bb17, AA18, cc18, ((hF.repl 4 (by kernel_rfl)).cast (by kernel_rfl)), (hM.cast (by kernel_rfl))⟩
          · intro a w hS
            obtain ⟨bb17, AA18, cc18, hF, hM⟩ := hS
            replace hF : Fr 253 [(0, some (.bool false)), (1, some (.pointer (some ⟨bb1, 0, none⟩))), (3, some (.pointer (some ⟨bb16, 0, none⟩))), (4, some (.bool false)), (5, some (.int .i64 130)), (44, some (.agg #[.int .i64 0, .int .i64 0, .int .i64 1, .int .i64 0, .int .i64 0, .int .i64 1, .int .i64 1048577, .int .i64 1, .int .i64 1, .int .i64 2097153, .int .i64 (-5), .int .i64 (-5)])), (45, some (.int .i64 2)), (48, some (.tuple #[.bool false, .int .i64 130])), (49, some (.agg #[.int .i64 0, .int .i64 1])), (50, some (.slice (some ⟨bb17, 0, none⟩) 2 2)), (51, some (.slice AA18 1 cc18)), (52, some (.tuple #[.bool false, .int .i64 130])), (53, some (.bool false)), (54, some (.int .i64 130))] a := hF.cast (by kernel_rfl)
            replace hM : Mem w0.heap.size w0 [(1, some (.row bb1 23 #[.int .i64 1, .int .i64 1])), (16, some (.row bb16 23 #[.int .i64 0, .int .i64 1])), (17, some (.row bb17 3 #[.int .i64 5, .int .i64 0])), (18, some (.own (.slice AA18 1 cc18) 30 2 1 (flat2 ([(5, 0)]))))] w := hM.cast (by kernel_rfl)
            refine hK30 _ _ ?_
            refine wp_seq_k fun K31 hK31 => ?_
            refine rF (by kernel_rfl) (by kernel_rfl) (fun S a w => ∃ bb19 : Nat, ∃ AA20 : Option Addr, ∃ cc20 : Nat, Fr 253 [(0, some (.bool false)), (1, some (.pointer (some ⟨bb1, 0, none⟩))), (3, some (.pointer (some ⟨bb16, 0, none⟩))), (5, some (.int .i64 130)), (6, (cond (S.getD 7 false) (some (.int .i64 0)) none)), (7, (cond (S.getD 8 false) (some (.int .i64 130)) none)), (44, some (.agg #[.int .i64 0, .int .i64 0, .int .i64 1, .int .i64 0, .int .i64 0, .int .i64 1, .int .i64 1048577, .int .i64 1, .int .i64 1, .int .i64 2097153, .int .i64 (-5), .int .i64 (-5)])), (45, some (.int .i64 2)), (55, (cond (S.getD 4 false) (some (.tuple #[.int .i64 0, .int .i64 130])) none)), (56, (cond (S.getD 0 false) (some (.agg #[.int .i64 0, .int .i64 1])) none)), (57, (cond (S.getD 1 false) (some (.slice (some ⟨bb19, 0, none⟩) 2 2)) none)), (58, (cond (S.getD 2 false) (some (.slice AA20 1 cc20)) none)), (59, (cond (S.getD 3 false) (some (.tuple #[.int .i64 0, .int .i64 130])) none)), (60, (cond (S.getD 5 false) (some (.int .i64 0)) none)), (61, (cond (S.getD 6 false) (some (.int .i64 130)) none))] a ∧ Mem w0.heap.size w0 [(1, some (.row bb1 23 #[.int .i64 1, .int .i64 1])), (16, some (.row bb16 23 #[.int .i64 0, .int .i64 1])), (19, (cond (S.getD 1 false) (some (.row bb19 3 #[.int .i64 5, .int .i64 0])) none)), (20, (cond (S.getD 2 false) (some (.own (.slice AA20 1 cc20) 30 2 1 (flat2 ([(5, 0)])))) none))] w) ?_ ?_ ?_
            · exact ⟨0, none, 0, ((((((((((((((((Fr.nil hF).co hF (i := 61) (by kernel_rfl)).co hF (i := 60) (by kernel_rfl)).co hF (i := 59) (by kernel_rfl)).co hF (i := 58) (by kernel_rfl)).co hF (i := 57) (by kernel_rfl)).co hF (i := 56) (by kernel_rfl)).co hF (i := 55) (by kernel_rfl)).co hF (i := 45) (by kernel_rfl)).co hF (i := 44) (by kernel_rfl)).co hF (i := 7) (by kernel_rfl)).co hF (i := 6) (by kernel_rfl)).co hF (i := 5) (by kernel_rfl)).co hF (i := 3) (by kernel_rfl)).co hF (i := 1) (by kernel_rfl)).co hF (i := 0) (by kernel_rfl)), hM.drew.sub ((((Sub.nil.co (k := 20) (by kernel_rfl)).co (k := 19) (by kernel_rfl)).co (k := 16) (by kernel_rfl)).co (k := 1) (by kernel_rfl))⟩
            · refine stC ?_ (stC ?_ (stC ?_ (stC ?_ (stC ?_ (stC ?_ (stC ?_ (stC ?_ (stC ?_ (trivial)))))))))
              · intro s0 s1 s2 s3 s4 s5 s6 s7 s8 hc hi hp a w hS
                obtain rfl : s0 = false := hi
                obtain ⟨bb19, AA20, cc20, hF, hM⟩ := hS
                refine eL 56 16 0 (v := .agg #[.int .i64 0, .int .i64 1]) hF hM (by kernel_rfl) rfl rfl (by kernel_rfl) (by kernel_rfl) fun a w hF hM => ?_
                exact ⟨bb19, AA20, cc20, ((hF.repl 9 (by kernel_rfl)).cast (by kernel_rfl)), (hM.cast (by kernel_rfl))⟩
              · intro s0 s1 s2 s3 s4 s5 s6 s7 s8 hc hi hp a w hS
                obtain rfl : s1 = false := hi
                obtain ⟨bb19, AA20, cc20, hF, hM⟩ := hS
                refine eN 57 19 (t := 3) (fun b => .slice (some ⟨b, 0, none⟩) 2 2) #[.int .i64 5, .int .i64 0] hF hM (by kernel_rfl) (fun _ => by kernel_rfl) fun bb19 a w hF hM => ?_
                exact ⟨bb19, AA20, cc20, ((hF.repl 10 (by kernel_rfl)).cast (by kernel_rfl)), ((hM.repl 2 (by kernel_rfl)).cast (by kernel_rfl))⟩
              · intro s0 s1 s2 s3 s4 s5 s6 s7 s8 hc hi hp a w hS
                obtain rfl : s2 = false := hi
                obtain rfl : s1 = true := hp 1 (by kernel_rfl)
                obtain ⟨bb19, AA20, cc20, hF, hM⟩ := hS
                refine sOwn 20 (f := 31) (args := #[.slice (some ⟨bb19, 0, none⟩) 2 2]) (mk := fun v => v) (e := 30) (size := 2) (m := 1) (xs := (flat2 ([(5, 0)]))) hF hM (by kernel_rfl) rfl (by decide) (by kernel_rfl) (fun _ => by kernel_rfl) (trace_w (some ⟨bb19, 0, none⟩) [5, 0] 2 w (hM.roRow (k := 19) rfl) (by decide)) fun AA20 cc20 a w hF hM => ?_
                exact ⟨bb19, AA20, cc20, ((hF.repl 11 (by kernel_rfl)).cast (by kernel_rfl)), ((hM.repl 3 (by kernel_rfl)).cast (by kernel_rfl))⟩
              · intro s0 s1 s2 s3 s4 s5 s6 s7 s8 hc hi hp a w hS
                obtain rfl : s3 = false := hi
                obtain rfl : s2 = true := hp 2 (by kernel_rfl)
                obtain rfl : s0 = true := hp 0 (by kernel_rfl)
                obtain ⟨bb19, AA20, cc20, hF, hM⟩ := hS
                refine eM 59 (v := .tuple #[.int .i64 0, .int .i64 130]) hF hM (by kernel_rfl) (Yld.to (yld_call (f := 25) (args := #[.agg #[.int .i64 0, .int .i64 1], .slice AA20 1 cc20]) hF (by kernel_rfl) (fun _ => by kernel_rfl) (fun w hM => bFirst_w 0 1 AA20 ([(5, 0)]) _ w (ro_of_own (hM.ok 20 _ rfl)))) (by kernel_rfl)) fun a w hF hM => ?_
                exact ⟨bb19, AA20, cc20, ((hF.repl 12 (by kernel_rfl)).cast (by kernel_rfl)), (hM.cast (by kernel_rfl))⟩
              · intro s0 s1 s2 s3 s4 s5 s6 s7 s8 hc hi hp a w hS
                obtain rfl : s4 = false := hi
                obtain rfl : s3 = true := hp 3 (by kernel_rfl)
                obtain ⟨bb19, AA20, cc20, hF, hM⟩ := hS
                refine eP 55 (v0 := .tuple #[.int .i64 0, .int .i64 130]) (v := .tuple #[.int .i64 0, .int .i64 130]) hF (by kernel_rfl) (fun _ => by kernel_rfl) rfl fun a hF => ?_
                exact ⟨bb19, AA20, cc20, ((hF.repl 8 (by kernel_rfl)).cast (by kernel_rfl)), (hM.cast (by kernel_rfl))⟩
              · intro s0 s1 s2 s3 s4 s5 s6 s7 s8 hc hi hp a w hS
                obtain rfl : s5 = false := hi
                obtain rfl : s4 = true := hp 4 (by kernel_rfl)
                obtain ⟨bb19, AA20, cc20, hF, hM⟩ := hS
                refine eP 60 (v0 := .int .i64 0) (v := .int .i64 0) hF (by kernel_rfl) (fun _ => by kernel_rfl) rfl fun a hF => ?_
                exact ⟨bb19, AA20, cc20, ((hF.repl 13 (by kernel_rfl)).cast (by kernel_rfl)), (hM.cast (by kernel_rfl))⟩
              · intro s0 s1 s2 s3 s4 s5 s6 s7 s8 hc hi hp a w hS
                obtain rfl : s6 = false := hi
                obtain rfl : s4 = true := hp 4 (by kernel_rfl)
                obtain ⟨bb19, AA20, cc20, hF, hM⟩ := hS
                refine eP 61 (v0 := .int .i64 130) (v := .int .i64 130) hF (by kernel_rfl) (fun _ => by kernel_rfl) rfl fun a hF => ?_
                exact ⟨bb19, AA20, cc20, ((hF.repl 14 (by kernel_rfl)).cast (by kernel_rfl)), (hM.cast (by kernel_rfl))⟩
              · intro s0 s1 s2 s3 s4 s5 s6 s7 s8 hc hi hp a w hS
                obtain rfl : s7 = false := hi
                obtain rfl : s5 = true := hp 5 (by kernel_rfl)
                obtain ⟨bb19, AA20, cc20, hF, hM⟩ := hS
                refine eP 6 (v0 := .int .i64 0) (v := .int .i64 0) hF (by kernel_rfl) (fun _ => by kernel_rfl) rfl fun a hF => ?_
                exact ⟨bb19, AA20, cc20, ((hF.repl 4 (by kernel_rfl)).cast (by kernel_rfl)), (hM.cast (by kernel_rfl))⟩
              · intro s0 s1 s2 s3 s4 s5 s6 s7 s8 hc hi hp a w hS
                obtain rfl : s8 = false := hi
                obtain rfl : s6 = true := hp 6 (by kernel_rfl)
                obtain ⟨bb19, AA20, cc20, hF, hM⟩ := hS
                refine eP 7 (v0 := .int .i64 130) (v := .int .i64 130) hF (by kernel_rfl) (fun _ => by kernel_rfl) rfl fun a hF => ?_
                exact ⟨bb19, AA20, cc20, ((hF.repl 5 (by kernel_rfl)).cast (by kernel_rfl)), (hM.cast (by kernel_rfl))⟩
            · intro a w hS
              obtain ⟨bb19, AA20, cc20, hF, hM⟩ := hS
              replace hF : Fr 253 [(0, some (.bool false)), (1, some (.pointer (some ⟨bb1, 0, none⟩))), (3, some (.pointer (some ⟨bb16, 0, none⟩))), (5, some (.int .i64 130)), (6, some (.int .i64 0)), (7, some (.int .i64 130)), (44, some (.agg #[.int .i64 0, .int .i64 0, .int .i64 1, .int .i64 0, .int .i64 0, .int .i64 1, .int .i64 1048577, .int .i64 1, .int .i64 1, .int .i64 2097153, .int .i64 (-5), .int .i64 (-5)])), (45, some (.int .i64 2)), (55, some (.tuple #[.int .i64 0, .int .i64 130])), (56, some (.agg #[.int .i64 0, .int .i64 1])), (57, some (.slice (some ⟨bb19, 0, none⟩) 2 2)), (58, some (.slice AA20 1 cc20)), (59, some (.tuple #[.int .i64 0, .int .i64 130])), (60, some (.int .i64 0)), (61, some (.int .i64 130))] a := hF.cast (by kernel_rfl)
              replace hM : Mem w0.heap.size w0 [(1, some (.row bb1 23 #[.int .i64 1, .int .i64 1])), (16, some (.row bb16 23 #[.int .i64 0, .int .i64 1])), (19, some (.row bb19 3 #[.int .i64 5, .int .i64 0])), (20, some (.own (.slice AA20 1 cc20) 30 2 1 (flat2 ([(5, 0)]))))] w := hM.cast (by kernel_rfl)
              refine hK31 _ _ ?_
              refine wp_seq_k fun K32 hK32 => ?_
              refine wp_region_lit ?_
              refine wl (eL 63 16 0 (v := .agg #[.int .i64 0, .int .i64 1]) hF hM (by kernel_rfl) rfl rfl (by kernel_rfl) (by kernel_rfl) fun a w hF hM => ?_)
              refine wl (eM 64 (v := .tuple #[.int .i64 0, .int .i64 130]) hF hM (by kernel_rfl) (Yld.to (yld_call (f := 13) (args := #[.agg #[.int .i64 0, .int .i64 1], .int .i64 (-1)]) hF (by kernel_rfl) (fun _ => by kernel_rfl) (fun w hM => bWithin_w 0 1 (-1) w)) (by kernel_rfl)) fun a w hF hM => ?_)
              refine sB 5 [(62, .tuple #[.int .i64 0, .int .i64 130]), (65, .int .i64 0), (66, .int .i64 130), (8, .int .i64 0), (9, .int .i64 130)] hF (by kernel_rfl) fun a hF => ?_
              refine wpList_nil ?_
              refine hK32 _ _ ?_
              refine wp_seq_k fun K33 hK33 => ?_
              refine wp_region_lit ?_
              refine wl (eL 68 1 0 (v := .agg #[.int .i64 1, .int .i64 1]) hF hM (by kernel_rfl) rfl rfl (by kernel_rfl) (by kernel_rfl) fun a w hF hM => ?_)
              refine wl (eL 69 16 0 (v := .agg #[.int .i64 0, .int .i64 1]) hF hM (by kernel_rfl) rfl rfl (by kernel_rfl) (by kernel_rfl) fun a w hF hM => ?_)
              refine wl (eN 70 21 (t := 23) (fun b => .slice (some ⟨b, 0, none⟩) 2 2) #[.int .i64 1, .int .i64 1, .int .i64 0, .int .i64 1] hF hM (by kernel_rfl) (fun _ => by kernel_rfl) fun bb21 a w hF hM => ?_)
              refine wl (eM 71 (v := .tuple #[.agg #[.int .i64 0, .int .i64 0], .int .i64 130]) hF hM (by kernel_rfl) (Yld.to (yld_call (f := 11) (args := #[.slice (some ⟨bb21, 0, none⟩) 2 2]) hF (by kernel_rfl) (fun _ => by kernel_rfl) (fun w hM => bSum_w (some ⟨bb21, 0, none⟩) [(1, 1), (0, 1)] _ w (hM.roRow (k := 21) rfl))) (by kernel_rfl)) fun a w hF hM => ?_)
              refine sB 3 [(67, .tuple #[.agg #[.int .i64 0, .int .i64 0], .int .i64 130]), (72, .agg #[.int .i64 0, .int .i64 0]), (73, .int .i64 130)] hF (by kernel_rfl) fun a hF => ?_
              refine wl (eN 10 22 (t := 23) (fun b => .pointer (some ⟨b, 0, none⟩)) #[.int .i64 0, .int .i64 0] hF hM (by kernel_rfl) (fun _ => by kernel_rfl) fun bb22 a w hF hM => ?_)
              refine wl (sStore (i := 22) (off := 0) (cs' := #[.int .i64 0, .int .i64 0]) hF hM (by kernel_rfl) rfl rfl (by kernel_rfl) (by kernel_rfl) rfl (by kernel_rfl) fun w hM => ?_)
              refine sB 1 [(11, .int .i64 130)] hF (by kernel_rfl) fun a hF => ?_
              refine wpList_nil ?_
              refine hK33 _ _ ?_
              refine wp_seq_k fun K34 hK34 => ?_
              refine wp_region_lit ?_
              refine wl (eL 74 16 0 (v := .agg #[.int .i64 0, .int .i64 1]) hF hM (by kernel_rfl) rfl rfl (by kernel_rfl) (by kernel_rfl) fun a w hF hM => ?_)
              refine wl (eM 75 (v := .int .i64 130) hF hM (by kernel_rfl) (Yld.to (yld_call (f := 15) (args := #[.agg #[.int .i64 0, .int .i64 1]]) hF (by kernel_rfl) (fun _ => by kernel_rfl) (fun w hM => bkCheck_w 0 1 w)) (by kernel_rfl)) fun a w hF hM => ?_)
              refine wl (eP 76 (v0 := .bool (!decide (130 = 130))) (v := .bool false) hF (by kernel_rfl) (fun _ => by kernel_rfl) (nT (by omega)) fun a hF => ?_)
              refine sB 2 [(77, .bool false), (78, .int .i64 130)] hF (by kernel_rfl) fun a hF => ?_
              refine wl (eP 79 (v0 := .bool (!decide (130 = 130))) (v := .bool false) hF (by kernel_rfl) (fun _ => by kernel_rfl) (nT (by omega)) fun a hF => ?_)
              refine sB 3 [(80, .bool false), (81, .bool false), (82, .int .i64 130)] hF (by kernel_rfl) fun a hF => ?_
              refine wl (eP 83 (v0 := .bool (!decide (130 = 130))) (v := .bool false) hF (by kernel_rfl) (fun _ => by kernel_rfl) (nT (by omega)) fun a hF => ?_)
              refine sB 3 [(84, .bool false), (85, .bool false), (86, .int .i64 130)] hF (by kernel_rfl) fun a hF => ?_
              refine wl (eP 87 (v0 := .bool (!decide (130 = 130))) (v := .bool false) hF (by kernel_rfl) (fun _ => by kernel_rfl) (nT (by omega)) fun a hF => ?_)
              refine sB 3 [(88, .bool false), (89, .bool false), (90, .int .i64 130)] hF (by kernel_rfl) fun a hF => ?_
              refine wl (eP 91 (v0 := .bool (!decide (130 = 130))) (v := .bool false) hF (by kernel_rfl) (fun _ => by kernel_rfl) (nT (by omega)) fun a hF => ?_)
              refine sB 1 [(92, .bool false)] hF (by kernel_rfl) fun a hF => ?_
              refine wpList_nil ?_
              refine hK34 _ _ ?_
              refine cF hF (by kernel_rfl) (by kernel_rfl) ?_
              refine wp_skip ?_
              refine hK28 _ _ ?_
              refine wp_region_lit ?_
              refine wl (eP 93 (v0 := .int .i64 (IntKind.i64.wrap (2 + 1))) (v := .int .i64 3) hF (by kernel_rfl) (fun _ => by kernel_rfl) (vi (by decide)) fun a hF => ?_)
              refine sB 1 [(45, .int .i64 3)] hF (by kernel_rfl) fun a hF => ?_
              refine wpList_nil ?_
              refine hK25 _ _ ?_
              refine rounds_k fun K35 hK35 => ?_
              refine wp_seq_k fun K36 hK36 => ?_
              refine wp_region_lit ?_
              refine wl (eP 46 (v0 := .bool (decide (3 < 6))) (v := .bool true) hF (by kernel_rfl) (fun _ => by kernel_rfl) (bT (by omega)) fun a hF => ?_)
              refine wpList_nil ?_
              refine hK36 _ _ ?_
              refine wp_seq_k fun K37 hK37 => ?_
              refine cT hF (by kernel_rfl) (by kernel_rfl) ?_
              refine wp_skip ?_
              refine hK37 _ _ ?_
              refine wp_seq_k fun K38 hK38 => ?_
              refine wp_block ?_
              refine wp_seq_k fun K39 hK39 => ?_
              refine wp_region_lit ?_
              refine sB 1 [(47, .agg #[.int .i64 1048577, .int .i64 1])] hF (by kernel_rfl) fun a hF => ?_
              refine wl (eN 3 23 (t := 23) (fun b => .pointer (some ⟨b, 0, none⟩)) #[.int .i64 0, .int .i64 0] hF hM (by kernel_rfl) (fun _ => by kernel_rfl) fun bb23 a w hF hM => ?_)
              refine wl (sStore (i := 23) (off := 0) (cs' := #[.int .i64 1048577, .int .i64 1]) hF hM (by kernel_rfl) rfl rfl (by kernel_rfl) (by kernel_rfl) rfl (by kernel_rfl) fun w hM => ?_)
              refine wpList_nil ?_
              refine hK39 _ _ ?_
              refine wp_seq_k fun K40 hK40 => ?_
              refine rF (by kernel_rfl) (by kernel_rfl) (fun S a w => ∃ bb24 : Nat, ∃ AA25 : Option Addr, ∃ cc25 : Nat, Fr 253 [(0, some (.bool false)), (1, some (.pointer (some ⟨bb1, 0, none⟩))), (3, some (.pointer (some ⟨bb23, 0, none⟩))), (4, (cond (S.getD 7 false) (some (.bool false)) none)), (5, (cond (S.getD 8 false) (some (.int .i64 130)) (some (.int .i64 130)))), (44, some (.agg #[.int .i64 0, .int .i64 0, .int .i64 1, .int .i64 0, .int .i64 0, .int .i64 1, .int .i64 1048577, .int .i64 1, .int .i64 1, .int .i64 2097153, .int .i64 (-5), .int .i64 (-5)])), (45, some (.int .i64 3)), (48, (cond (S.getD 4 false) (some (.tuple #[.bool false, .int .i64 130])) none)), (49, (cond (S.getD 0 false) (some (.agg #[.int .i64 1048577, .int .i64 1])) none)), (50, (cond (S.getD 1 false) (some (.slice (some ⟨bb24, 0, none⟩) 2 2)) none)), (51, (cond (S.getD 2 false) (some (.slice AA25 1 cc25)) none)), (52, (cond (S.getD 3 false) (some (.tuple #[.bool false, .int .i64 130])) none)), (53, (cond (S.getD 5 false) (some (.bool false)) none)), (54, (cond (S.getD 6 false) (some (.int .i64 130)) none))] a ∧ Mem w0.heap.size w0 [(1, some (.row bb1 23 #[.int .i64 1, .int .i64 1])), (23, some (.row bb23 23 #[.int .i64 1048577, .int .i64 1])), (24, (cond (S.getD 1 false) (some (.row bb24 3 #[.int .i64 5, .int .i64 0])) none)), (25, (cond (S.getD 2 false) (some (.own (.slice AA25 1 cc25) 30 2 1 (flat2 ([(5, 0)])))) none))] w) ?_ ?_ ?_
              · exact ⟨0, none, 0, (((((((((((((((Fr.nil hF).co hF (i := 54) (by kernel_rfl)).co hF (i := 53) (by kernel_rfl)).co hF (i := 52) (by kernel_rfl)).co hF (i := 51) (by kernel_rfl)).co hF (i := 50) (by kernel_rfl)).co hF (i := 49) (by kernel_rfl)).co hF (i := 48) (by kernel_rfl)).co hF (i := 45) (by kernel_rfl)).co hF (i := 44) (by kernel_rfl)).co hF (i := 5) (by kernel_rfl)).co hF (i := 4) (by kernel_rfl)).co hF (i := 3) (by kernel_rfl)).co hF (i := 1) (by kernel_rfl)).co hF (i := 0) (by kernel_rfl)), hM.drew.sub ((((Sub.nil.co (k := 25) (by kernel_rfl)).co (k := 24) (by kernel_rfl)).co (k := 23) (by kernel_rfl)).co (k := 1) (by kernel_rfl))⟩
              · refine stC ?_ (stC ?_ (stC ?_ (stC ?_ (stC ?_ (stC ?_ (stC ?_ (stC ?_ (stC ?_ (trivial)))))))))
                · intro s0 s1 s2 s3 s4 s5 s6 s7 s8 hc hi hp a w hS
                  obtain rfl : s0 = false := hi
                  obtain ⟨bb24, AA25, cc25, hF, hM⟩ := hS
                  refine eL 49 23 0 (v := .agg #[.int .i64 1048577, .int .i64 1]) hF hM (by kernel_rfl) rfl rfl (by kernel_rfl) (by kernel_rfl) fun a w hF hM => ?_
                  exact ⟨bb24, AA25, cc25, ((hF.repl 8 (by kernel_rfl)).cast (by kernel_rfl)), (hM.cast (by kernel_rfl))⟩
                · intro s0 s1 s2 s3 s4 s5 s6 s7 s8 hc hi hp a w hS
                  obtain rfl : s1 = false := hi
                  obtain ⟨bb24, AA25, cc25, hF, hM⟩ := hS
                  refine eN 50 24 (t := 3) (fun b => .slice (some ⟨b, 0, none⟩) 2 2) #[.int .i64 5, .int .i64 0] hF hM (by kernel_rfl) (fun _ => by kernel_rfl) fun bb24 a w hF hM => ?_
                  exact ⟨bb24, AA25, cc25, ((hF.repl 9 (by kernel_rfl)).cast (by kernel_rfl)), ((hM.repl 2 (by kernel_rfl)).cast (by kernel_rfl))⟩
                · intro s0 s1 s2 s3 s4 s5 s6 s7 s8 hc hi hp a w hS
                  obtain rfl : s2 = false := hi
                  obtain rfl : s1 = true := hp 1 (by kernel_rfl)
                  obtain ⟨bb24, AA25, cc25, hF, hM⟩ := hS
                  refine sOwn 25 (f := 31) (args := #[.slice (some ⟨bb24, 0, none⟩) 2 2]) (mk := fun v => v) (e := 30) (size := 2) (m := 1) (xs := (flat2 ([(5, 0)]))) hF hM (by kernel_rfl) rfl (by decide) (by kernel_rfl) (fun _ => by kernel_rfl) (trace_w (some ⟨bb24, 0, none⟩) [5, 0] 2 w (hM.roRow (k := 24) rfl) (by decide)) fun AA25 cc25 a w hF hM => ?_
                  exact ⟨bb24, AA25, cc25, ((hF.repl 10 (by kernel_rfl)).cast (by kernel_rfl)), ((hM.repl 3 (by kernel_rfl)).cast (by kernel_rfl))⟩
                · intro s0 s1 s2 s3 s4 s5 s6 s7 s8 hc hi hp a w hS
                  obtain rfl : s3 = false := hi
                  obtain rfl : s2 = true := hp 2 (by kernel_rfl)
                  obtain rfl : s0 = true := hp 0 (by kernel_rfl)
                  obtain ⟨bb24, AA25, cc25, hF, hM⟩ := hS
                  refine eM 52 (v := .tuple #[.bool false, .int .i64 130]) hF hM (by kernel_rfl) (Yld.to (yld_call (f := 23) (args := #[.agg #[.int .i64 1048577, .int .i64 1], .slice AA25 1 cc25]) hF (by kernel_rfl) (fun _ => by kernel_rfl) (fun w hM => conforms_w 1048577 1 AA25 ([(5, 0)]) _ w (ro_of_own (hM.ok 25 _ rfl)))) (by kernel_rfl)) fun a w hF hM => ?_
                  exact ⟨bb24, AA25, cc25, ((hF.repl 11 (by kernel_rfl)).cast (by kernel_rfl)), (hM.cast (by kernel_rfl))⟩
                · intro s0 s1 s2 s3 s4 s5 s6 s7 s8 hc hi hp a w hS
                  obtain rfl : s4 = false := hi
                  obtain rfl : s3 = true := hp 3 (by kernel_rfl)
                  obtain ⟨bb24, AA25, cc25, hF, hM⟩ := hS
                  refine eP 48 (v0 := .tuple #[.bool false, .int .i64 130]) (v := .tuple #[.bool false, .int .i64 130]) hF (by kernel_rfl) (fun _ => by kernel_rfl) rfl fun a hF => ?_
                  exact ⟨bb24, AA25, cc25, ((hF.repl 7 (by kernel_rfl)).cast (by kernel_rfl)), (hM.cast (by kernel_rfl))⟩
                · intro s0 s1 s2 s3 s4 s5 s6 s7 s8 hc hi hp a w hS
                  obtain rfl : s5 = false := hi
                  obtain rfl : s4 = true := hp 4 (by kernel_rfl)
                  obtain ⟨bb24, AA25, cc25, hF, hM⟩ := hS
                  refine eP 53 (v0 := .bool false) (v := .bool false) hF (by kernel_rfl) (fun _ => by kernel_rfl) rfl fun a hF => ?_
                  exact ⟨bb24, AA25, cc25, ((hF.repl 12 (by kernel_rfl)).cast (by kernel_rfl)), (hM.cast (by kernel_rfl))⟩
                · intro s0 s1 s2 s3 s4 s5 s6 s7 s8 hc hi hp a w hS
                  obtain rfl : s6 = false := hi
                  obtain rfl : s4 = true := hp 4 (by kernel_rfl)
                  obtain ⟨bb24, AA25, cc25, hF, hM⟩ := hS
                  refine eP 54 (v0 := .int .i64 130) (v := .int .i64 130) hF (by kernel_rfl) (fun _ => by kernel_rfl) rfl fun a hF => ?_
                  exact ⟨bb24, AA25, cc25, ((hF.repl 13 (by kernel_rfl)).cast (by kernel_rfl)), (hM.cast (by kernel_rfl))⟩
                · intro s0 s1 s2 s3 s4 s5 s6 s7 s8 hc hi hp a w hS
                  obtain rfl : s7 = false := hi
                  obtain rfl : s5 = true := hp 5 (by kernel_rfl)
                  obtain ⟨bb24, AA25, cc25, hF, hM⟩ := hS
                  refine eP 4 (v0 := .bool false) (v := .bool false) hF (by kernel_rfl) (fun _ => by kernel_rfl) rfl fun a hF => ?_
                  exact ⟨bb24, AA25, cc25, ((hF.repl 3 (by kernel_rfl)).cast (by kernel_rfl)), (hM.cast (by kernel_rfl))⟩
                · intro s0 s1 s2 s3 s4 s5 s6 s7 s8 hc hi hp a w hS
                  obtain rfl : s8 = false := hi
                  obtain rfl : s6 = true := hp 6 (by kernel_rfl)
                  obtain ⟨bb24, AA25, cc25, hF, hM⟩ := hS
                  refine eP 5 (v0 := .int .i64 130) (v := .int .i64 130) hF (by kernel_rfl) (fun _ => by kernel_rfl) rfl fun a hF => ?_
                  exact ⟨bb24, AA25, cc25, ((hF.repl 4 (by kernel_rfl)).cast (by kernel_rfl)), (hM.cast (by kernel_rfl))⟩
              · intro a w hS
                obtain ⟨bb24, AA25, cc25, hF, hM⟩ := hS
                replace hF : Fr 253 [(0, some (.bool false)), (1, some (.pointer (some ⟨bb1, 0, none⟩))), (3, some (.pointer (some ⟨bb23, 0, none⟩))), (4, some (.bool false)), (5, some (.int .i64 130)), (44, some (.agg #[.int .i64 0, .int .i64 0, .int .i64 1, .int .i64 0, .int .i64 0, .int .i64 1, .int .i64 1048577, .int .i64 1, .int .i64 1, .int .i64 2097153, .int .i64 (-5), .int .i64 (-5)])), (45, some (.int .i64 3)), (48, some (.tuple #[.bool false, .int .i64 130])), (49, some (.agg #[.int .i64 1048577, .int .i64 1])), (50, some (.slice (some ⟨bb24, 0, none⟩) 2 2)), (51, some (.slice AA25 1 cc25)), (52, some (.tuple #[.bool false, .int .i64 130])), (53, some (.bool false)), (54, some (.int .i64 130))] a := hF.cast (by kernel_rfl)
                replace hM : Mem w0.heap.size w0 [(1, some (.row bb1 23 #[.int .i64 1, .int .i64 1])), (23, some (.row bb23 23 #[.int .i64 1048577, .int .i64 1])), (24, some (.row bb24 3 #[.int .i64 5, .int .i64 0])), (25, some (.own (.slice AA25 1 cc25) 30 2 1 (flat2 ([(5, 0)]))))] w := hM.cast (by kernel_rfl)
                refine hK40 _ _ ?_
                refine wp_seq_k fun K41 hK41 => ?_
                refine rF (by kernel_rfl) (by kernel_rfl) (fun S a w => ∃ bb26 : Nat, ∃ AA27 : Option Addr, ∃ cc27 : Nat, Fr 253 [(0, some (.bool false)), (1, some (.pointer (some ⟨bb1, 0, none⟩))), (3, some (.pointer (some ⟨bb23, 0, none⟩))), (5, some (.int .i64 130)), (6, (cond (S.getD 7 false) (some (.int .i64 0)) none)), (7, (cond (S.getD 8 false) (some (.int .i64 130)) none)), (44, some (.agg #[.int .i64 0, .int .i64 0, .int .i64 1, .int .i64 0, .int .i64 0, .int .i64 1, .int .i64 1048577, .int .i64 1, .int .i64 1, .int .i64 2097153, .int .i64 (-5), .int .i64 (-5)])), (45, some (.int .i64 3)), (55, (cond (S.getD 4 false) (some (.tuple #[.int .i64 0, .int .i64 130])) none)), (56, (cond (S.getD 0 false) (some (.agg #[.int .i64 1048577, .int .i64 1])) none)), (57, (cond (S.getD 1 false) (some (.slice (some ⟨bb26, 0, none⟩) 2 2)) none)), (58, (cond (S.getD 2 false) (some (.slice AA27 1 cc27)) none)), (59, (cond (S.getD 3 false) (some (.tuple #[.int .i64 0, .int .i64 130])) none)), (60, (cond (S.getD 5 false) (some (.int .i64 0)) none)), (61, (cond (S.getD 6 false) (some (.int .i64 130)) none))] a ∧ Mem w0.heap.size w0 [(1, some (.row bb1 23 #[.int .i64 1, .int .i64 1])), (23, some (.row bb23 23 #[.int .i64 1048577, .int .i64 1])), (26, (cond (S.getD 1 false) (some (.row bb26 3 #[.int .i64 5, .int .i64 0])) none)), (27, (cond (S.getD 2 false) (some (.own (.slice AA27 1 cc27) 30 2 1 (flat2 ([(5, 0)])))) none))] w) ?_ ?_ ?_
                · exact ⟨0, none, 0, ((((((((((((((((Fr.nil hF).co hF (i := 61) (by kernel_rfl)).co hF (i := 60) (by kernel_rfl)).co hF (i := 59) (by kernel_rfl)).co hF (i := 58) (by kernel_rfl)).co hF (i := 57) (by kernel_rfl)).co hF (i := 56) (by kernel_rfl)).co hF (i := 55) (by kernel_rfl)).co hF (i := 45) (by kernel_rfl)).co hF (i := 44) (by kernel_rfl)).co hF (i := 7) (by kernel_rfl)).co hF (i := 6) (by kernel_rfl)).co hF (i := 5) (by kernel_rfl)).co hF (i := 3) (by kernel_rfl)).co hF (i := 1) (by kernel_rfl)).co hF (i := 0) (by kernel_rfl)), hM.drew.sub ((((Sub.nil.co (k := 27) (by kernel_rfl)).co (k := 26) (by kernel_rfl)).co (k := 23) (by kernel_rfl)).co (k := 1) (by kernel_rfl))⟩
                · refine stC ?_ (stC ?_ (stC ?_ (stC ?_ (stC ?_ (stC ?_ (stC ?_ (stC ?_ (stC ?_ (trivial)))))))))
                  · intro s0 s1 s2 s3 s4 s5 s6 s7 s8 hc hi hp a w hS
                    obtain rfl : s0 = false := hi
                    obtain ⟨bb26, AA27, cc27, hF, hM⟩ := hS
                    refine eL 56 23 0 (v := .agg #[.int .i64 1048577, .int .i64 1]) hF hM (by kernel_rfl) rfl rfl (by kernel_rfl) (by kernel_rfl) fun a w hF hM => ?_
                    exact ⟨bb26, AA27, cc27, ((hF.repl 9 (by kernel_rfl)).cast (by kernel_rfl)), (hM.cast (by kernel_rfl))⟩
                  · intro s0 s1 s2 s3 s4 s5 s6 s7 s8 hc hi hp a w hS
                    obtain rfl : s1 = false := hi
                    obtain ⟨bb26, AA27, cc27, hF, hM⟩ := hS
                    refine eN 57 26 (t := 3) (fun b => .slice (some ⟨b, 0, none⟩) 2 2) #[.int .i64 5, .int .i64 0] hF hM (by kernel_rfl) (fun _ => by kernel_rfl) fun bb26 a w hF hM => ?_
                    exact ⟨bb26, AA27, cc27, ((hF.repl 10 (by kernel_rfl)).cast (by kernel_rfl)), ((hM.repl 2 (by kernel_rfl)).cast (by kernel_rfl))⟩
                  · intro s0 s1 s2 s3 s4 s5 s6 s7 s8 hc hi hp a w hS
                    obtain rfl : s2 = false := hi
                    obtain rfl : s1 = true := hp 1 (by kernel_rfl)
                    obtain ⟨bb26, AA27, cc27, hF, hM⟩ := hS
                    refine sOwn 27 (f := 31) (args := #[.slice (some ⟨bb26, 0, none⟩) 2 2]) (mk := fun v => v) (e := 30) (size := 2) (m := 1) (xs := (flat2 ([(5, 0)]))) hF hM (by kernel_rfl) rfl (by decide) (by kernel_rfl) (fun _ => by kernel_rfl) (trace_w (some ⟨bb26, 0, none⟩) [5, 0] 2 w (hM.roRow (k := 26) rfl) (by decide)) fun AA27 cc27 a w hF hM => ?_
                    exact ⟨bb26, AA27, cc27, ((hF.repl 11 (by kernel_rfl)).cast (by kernel_rfl)), ((hM.repl 3 (by kernel_rfl)).cast (by kernel_rfl))⟩
                  · intro s0 s1 s2 s3 s4 s5 s6 s7 s8 hc hi hp a w hS
                    obtain rfl : s3 = false := hi
                    obtain rfl : s2 = true := hp 2 (by kernel_rfl)
                    obtain rfl : s0 = true := hp 0 (by kernel_rfl)
                    obtain ⟨bb26, AA27, cc27, hF, hM⟩ := hS
                    refine eM 59 (v := .tuple #[.int .i64 0, .int .i64 130]) hF hM (by kernel_rfl) (Yld.to (yld_call (f := 25) (args := #[.agg #[.int .i64 1048577, .int .i64 1], .slice AA27 1 cc27]) hF (by kernel_rfl) (fun _ => by kernel_rfl) (fun w hM => bFirst_w 1048577 1 AA27 ([(5, 0)]) _ w (ro_of_own (hM.ok 27 _ rfl)))) (by kernel_rfl)) fun a w hF hM => ?_
                    exact ⟨bb26, AA27, cc27, ((hF.repl 12 (by kernel_rfl)).cast (by kernel_rfl)), (hM.cast (by kernel_rfl))⟩
                  · intro s0 s1 s2 s3 s4 s5 s6 s7 s8 hc hi hp a w hS
                    obtain rfl : s4 = false := hi
                    obtain rfl : s3 = true := hp 3 (by kernel_rfl)
                    obtain ⟨bb26, AA27, cc27, hF, hM⟩ := hS
                    refine eP 55 (v0 := .tuple #[.int .i64 0, .int .i64 130]) (v := .tuple #[.int .i64 0, .int .i64 130]) hF (by kernel_rfl) (fun _ => by kernel_rfl) rfl fun a hF => ?_
                    exact ⟨bb26, AA27, cc27, ((hF.repl 8 (by kernel_rfl)).cast (by kernel_rfl)), (hM.cast (by kernel_rfl))⟩
                  · intro s0 s1 s2 s3 s4 s5 s6 s7 s8 hc hi hp a w hS
                    obtain rfl : s5 = false := hi
                    obtain rfl : s4 = true := hp 4 (by kernel_rfl)
                    obtain ⟨bb26, AA27, cc27, hF, hM⟩ := hS
                    refine eP 60 (v0 := .int .i64 0) (v := .int .i64 0) hF (by kernel_rfl) (fun _ => by kernel_rfl) rfl fun a hF => ?_
                    exact ⟨bb26, AA27, cc27, ((hF.repl 13 (by kernel_rfl)).cast (by kernel_rfl)), (hM.cast (by kernel_rfl))⟩
                  · intro s0 s1 s2 s3 s4 s5 s6 s7 s8 hc hi hp a w hS
                    obtain rfl : s6 = false := hi
                    obtain rfl : s4 = true := hp 4 (by kernel_rfl)
                    obtain ⟨bb26, AA27, cc27, hF, hM⟩ := hS
                    refine eP 61 (v0 := .int .i64 130) (v := .int .i64 130) hF (by kernel_rfl) (fun _ => by kernel_rfl) rfl fun a hF => ?_
                    exact ⟨bb26, AA27, cc27, ((hF.repl 14 (by kernel_rfl)).cast (by kernel_rfl)), (hM.cast (by kernel_rfl))⟩
                  · intro s0 s1 s2 s3 s4 s5 s6 s7 s8 hc hi hp a w hS
                    obtain rfl : s7 = false := hi
                    obtain rfl : s5 = true := hp 5 (by kernel_rfl)
                    obtain ⟨bb26, AA27, cc27, hF, hM⟩ := hS
                    refine eP 6 (v0 := .int .i64 0) (v := .int .i64 0) hF (by kernel_rfl) (fun _ => by kernel_rfl) rfl fun a hF => ?_
                    exact ⟨bb26, AA27, cc27, ((hF.repl 4 (by kernel_rfl)).cast (by kernel_rfl)), (hM.cast (by kernel_rfl))⟩
                  · intro s0 s1 s2 s3 s4 s5 s6 s7 s8 hc hi hp a w hS
                    obtain rfl : s8 = false := hi
                    obtain rfl : s6 = true := hp 6 (by kernel_rfl)
                    obtain ⟨bb26, AA27, cc27, hF, hM⟩ := hS
                    refine eP 7 (v0 := .int .i64 130) (v := .int .i64 130) hF (by kernel_rfl) (fun _ => by kernel_rfl) rfl fun a hF => ?_
                    exact ⟨bb26, AA27, cc27, ((hF.repl 5 (by kernel_rfl)).cast (by kernel_rfl)), (hM.cast (by kernel_rfl))⟩
                · intro a w hS
                  obtain ⟨bb26, AA27, cc27, hF, hM⟩ := hS
                  replace hF : Fr 253 [(0, some (.bool false)), (1, some (.pointer (some ⟨bb1, 0, none⟩))), (3, some (.pointer (some ⟨bb23, 0, none⟩))), (5, some (.int .i64 130)), (6, some (.int .i64 0)), (7, some (.int .i64 130)), (44, some (.agg #[.int .i64 0, .int .i64 0, .int .i64 1, .int .i64 0, .int .i64 0, .int .i64 1, .int .i64 1048577, .int .i64 1, .int .i64 1, .int .i64 2097153, .int .i64 (-5), .int .i64 (-5)])), (45, some (.int .i64 3)), (55, some (.tuple #[.int .i64 0, .int .i64 130])), (56, some (.agg #[.int .i64 1048577, .int .i64 1])), (57, some (.slice (some ⟨bb26, 0, none⟩) 2 2)), (58, some (.slice AA27 1 cc27)), (59, some (.tuple #[.int .i64 0, .int .i64 130])), (60, some (.int .i64 0)), (61, some (.int .i64 130))] a := hF.cast (by kernel_rfl)
                  replace hM : Mem w0.heap.size w0 [(1, some (.row bb1 23 #[.int .i64 1, .int .i64 1])), (23, some (.row bb23 23 #[.int .i64 1048577, .int .i64 1])), (26, some (.row bb26 3 #[.int .i64 5, .int .i64 0])), (27, some (.own (.slice AA27 1 cc27) 30 2 1 (flat2 ([(5, 0)]))))] w := hM.cast (by kernel_rfl)
                  refine hK41 _ _ ?_
                  refine wp_seq_k fun K42 hK42 => ?_
                  refine wp_region_lit ?_
                  refine wl (eL 63 23 0 (v := .agg #[.int .i64 1048577, .int .i64 1]) hF hM (by kernel_rfl) rfl rfl (by kernel_rfl) (by kernel_rfl) fun a w hF hM => ?_)
                  refine wl (eM 64 (v := .tuple #[.int .i64 0, .int .i64 130]) hF hM (by kernel_rfl) (Yld.to (yld_call (f := 13) (args := #[.agg #[.int .i64 1048577, .int .i64 1], .int .i64 (-1)]) hF (by kernel_rfl) (fun _ => by kernel_rfl) (fun w hM => bWithin_w 1048577 1 (-1) w)) (by kernel_rfl)) fun a w hF hM => ?_)
                  refine sB 5 [(62, .tuple #[.int .i64 0, .int .i64 130]), (65, .int .i64 0), (66, .int .i64 130), (8, .int .i64 0), (9, .int .i64 130)] hF (by kernel_rfl) fun a hF => ?_
                  refine wpList_nil ?_
                  refine hK42 _ _ ?_
                  refine wp_seq_k fun K43 hK43 => ?_
                  refine wp_region_lit ?_
                  refine wl (eL 68 1 0 (v := .agg #[.int .i64 1, .int .i64 1]) hF hM (by kernel_rfl) rfl rfl (by kernel_rfl) (by kernel_rfl) fun a w hF hM => ?_)
                  refine wl (eL 69 23 0 (v := .agg #[.int .i64 1048577, .int .i64 1]) hF hM (by kernel_rfl) rfl rfl (by kernel_rfl) (by kernel_rfl) fun a w hF hM => ?_)
                  refine wl (eN 70 28 (t := 23) (fun b => .slice (some ⟨b, 0, none⟩) 2 2) #[.int .i64 1, .int .i64 1, .int .i64 1048577, .int .i64 1] hF hM (by kernel_rfl) (fun _ => by kernel_rfl) fun bb28 a w hF hM => ?_)
                  refine wl (eM 71 (v := .tuple #[.agg #[.int .i64 0, .int .i64 0], .int .i64 130]) hF hM (by kernel_rfl) (Yld.to (yld_call (f := 11) (args := #[.slice (some ⟨bb28, 0, none⟩) 2 2]) hF (by kernel_rfl) (fun _ => by kernel_rfl) (fun w hM => bSum_w (some ⟨bb28, 0, none⟩) [(1, 1), (1048577, 1)] _ w (hM.roRow (k := 28) rfl))) (by kernel_rfl)) fun a w hF hM => ?_)
                  refine sB 3 [(67, .tuple #[.agg #[.int .i64 0, .int .i64 0], .int .i64 130]), (72, .agg #[.int .i64 0, .int .i64 0]), (73, .int .i64 130)] hF (by kernel_rfl) fun a hF => ?_
                  refine wl (eN 10 29 (t := 23) (fun b => .pointer (some ⟨b, 0, none⟩)) #[.int .i64 0, .int .i64 0] hF hM (by kernel_rfl) (fun _ => by kernel_rfl) fun bb29 a w hF hM => ?_)
                  refine wl (sStore (i := 29) (off := 0) (cs' := #[.int .i64 0, .int .i64 0]) hF hM (by kernel_rfl) rfl rfl (by kernel_rfl) (by kernel_rfl) rfl (by kernel_rfl) fun w hM => ?_)
                  refine sB 1 [(11, .int .i64 130)] hF (by kernel_rfl) fun a hF => ?_
                  refine wpList_nil ?_
                  refine hK43 _ _ ?_
                  refine wp_seq_k fun K44 hK44 => ?_
                  refine wp_region_lit ?_
                  refine wl (eL 74 23 0 (v := .agg #[.int .i64 1048577, .int .i64 1]) hF hM (by kernel_rfl) rfl rfl (by kernel_rfl) (by kernel_rfl) fun a w hF hM => ?_)
                  refine wl (eM 75 (v := .int .i64 130) hF hM (by kernel_rfl) (Yld.to (yld_call (f := 15) (args := #[.agg #[.int .i64 1048577, .int .i64 1]]) hF (by kernel_rfl) (fun _ => by kernel_rfl) (fun w hM => bkCheck_w 1048577 1 w)) (by kernel_rfl)) fun a w hF hM => ?_)
                  refine wl (eP 76 (v0 := .bool (!decide (130 = 130))) (v := .bool false) hF (by kernel_rfl) (fun _ => by kernel_rfl) (nT (by omega)) fun a hF => ?_)
                  refine sB 2 [(77, .bool false), (78, .int .i64 130)] hF (by kernel_rfl) fun a hF => ?_
                  refine wl (eP 79 (v0 := .bool (!decide (130 = 130))) (v := .bool false) hF (by kernel_rfl) (fun _ => by kernel_rfl) (nT (by omega)) fun a hF => ?_)
                  refine sB 3 [(80, .bool false), (81, .bool false), (82, .int .i64 130)] hF (by kernel_rfl) fun a hF => ?_
                  refine wl (eP 83 (v0 := .bool (!decide (130 = 130))) (v := .bool false) hF (by kernel_rfl) (fun _ => by kernel_rfl) (nT (by omega)) fun a hF => ?_)
                  refine sB 3 [(84, .bool false), (85, .bool false), (86, .int .i64 130)] hF (by kernel_rfl) fun a hF => ?_
                  refine wl (eP 87 (v0 := .bool (!decide (130 = 130))) (v := .bool false) hF (by kernel_rfl) (fun _ => by kernel_rfl) (nT (by omega)) fun a hF => ?_)
                  refine sB 3 [(88, .bool false), (89, .bool false), (90, .int .i64 130)] hF (by kernel_rfl) fun a hF => ?_
                  refine wl (eP 91 (v0 := .bool (!decide (130 = 130))) (v := .bool false) hF (by kernel_rfl) (fun _ => by kernel_rfl) (nT (by omega)) fun a hF => ?_)
                  refine sB 1 [(92, .bool false)] hF (by kernel_rfl) fun a hF => ?_
                  refine wpList_nil ?_
                  refine hK44 _ _ ?_
                  refine cF hF (by kernel_rfl) (by kernel_rfl) ?_
                  refine wp_skip ?_
                  refine hK38 _ _ ?_
                  refine wp_region_lit ?_
                  refine wl (eP 93 (v0 := .int .i64 (IntKind.i64.wrap (3 + 1))) (v := .int .i64 4) hF (by kernel_rfl) (fun _ => by kernel_rfl) (vi (by decide)) fun a hF => ?_)
                  refine sB 1 [(45, .int .i64 4)] hF (by kernel_rfl) fun a hF => ?_
                  refine wpList_nil ?_
                  refine hK35 _ _ ?_
                  refine rounds_k fun K45 hK45 => ?_
                  refine wp_seq_k fun K46 hK46 => ?_
                  refine wp_region_lit ?_
                  refine wl (eP 46 (v0 := .bool (decide (4 < 6))) (v := .bool true) hF (by kernel_rfl) (fun _ => by kernel_rfl) (bT (by omega)) fun a hF => ?_)
                  refine wpList_nil ?_
                  refine hK46 _ _ ?_
                  refine wp_seq_k fun K47 hK47 => ?_
                  refine cT hF (by kernel_rfl) (by kernel_rfl) ?_
                  refine wp_skip ?_
                  refine hK47 _ _ ?_
                  refine wp_seq_k fun K48 hK48 => ?_
                  refine wp_block ?_
                  refine wp_seq_k fun K49 hK49 => ?_
                  refine wp_region_lit ?_
                  refine sB 1 [(47, .agg #[.int .i64 1, .int .i64 2097153])] hF (by kernel_rfl) fun a hF => ?_
                  refine wl (eN 3 30 (t := 23) (fun b => .pointer (some ⟨b, 0, none⟩)) #[.int .i64 0, .int .i64 0] hF hM (by kernel_rfl) (fun _ => by kernel_rfl) fun bb30 a w hF hM => ?_)
                  refine wl (sStore (i := 30) (off := 0) (cs' := #[.int .i64 1, .int .i64 2097153]) hF hM (by kernel_rfl) rfl rfl (by kernel_rfl) (by kernel_rfl) rfl (by kernel_rfl) fun w hM => ?_)
                  refine wpList_nil ?_
                  refine hK49 _ _ ?_
                  refine wp_seq_k fun K50 hK50 => ?_
                  refine rF (by kernel_rfl) (by kernel_rfl) (fun S a w => ∃ bb31 : Nat, ∃ AA32 : Option Addr, ∃ cc32 : Nat, Fr 253 [(0, some (.bool false)), (1, some (.pointer (some ⟨bb1, 0, none⟩))), (3, some (.pointer (some ⟨bb30, 0, none⟩))), (4, (cond (S.getD 7 false) (some (.bool false)) none)), (5, (cond (S.getD 8 false) (some (.int .i64 130)) (some (.int .i64 130)))), (44, some (.agg #[.int .i64 0, .int .i64 0, .int .i64 1, .int .i64 0, .int .i64 0, .int .i64 1, .int .i64 1048577, .int .i64 1, .int .i64 1, .int .i64 2097153, .int .i64 (-5), .int .i64 (-5)])), (45, some (.int .i64 4)), (48, (cond (S.getD 4 false) (some (.tuple #[.bool false, .int .i64 130])) none)), (49, (cond (S.getD 0 false) (some (.agg #[.int .i64 1, .int .i64 2097153])) none)), (50, (cond (S.getD 1 false) (some (.slice (some ⟨bb31, 0, none⟩) 2 2)) none)), (51, (cond (S.getD 2 false) (some (.slice AA32 1 cc32)) none)), (52, (cond (S.getD 3 false) (some (.tuple #[.bool false, .int .i64 130])) none)), (53, (cond (S.getD 5 false) (some (.bool false)) none)), (54, (cond (S.getD 6 false) (some (.int .i64 130)) none))] a ∧ Mem w0.heap.size w0 [(1, some (.row bb1 23 #[.int .i64 1, .int .i64 1])), (30, some (.row bb30 23 #[.int .i64 1, .int .i64 2097153])), (31, (cond (S.getD 1 false) (some (.row bb31 3 #[.int .i64 5, .int .i64 0])) none)), (32, (cond (S.getD 2 false) (some (.own (.slice AA32 1 cc32) 30 2 1 (flat2 ([(5, 0)])))) none))] w) ?_ ?_ ?_
                  · exact ⟨0, none, 0, (((((((((((((((Fr.nil hF).co hF (i := 54) (by kernel_rfl)).co hF (i := 53) (by kernel_rfl)).co hF (i := 52) (by kernel_rfl)).co hF (i := 51) (by kernel_rfl)).co hF (i := 50) (by kernel_rfl)).co hF (i := 49) (by kernel_rfl)).co hF (i := 48) (by kernel_rfl)).co hF (i := 45) (by kernel_rfl)).co hF (i := 44) (by kernel_rfl)).co hF (i := 5) (by kernel_rfl)).co hF (i := 4) (by kernel_rfl)).co hF (i := 3) (by kernel_rfl)).co hF (i := 1) (by kernel_rfl)).co hF (i := 0) (by kernel_rfl)), hM.drew.sub ((((Sub.nil.co (k := 32) (by kernel_rfl)).co (k := 31) (by kernel_rfl)).co (k := 30) (by kernel_rfl)).co (k := 1) (by kernel_rfl))⟩
                  · refine stC ?_ (stC ?_ (stC ?_ (stC ?_ (stC ?_ (stC ?_ (stC ?_ (stC ?_ (stC ?_ (trivial)))))))))
                    · intro s0 s1 s2 s3 s4 s5 s6 s7 s8 hc hi hp a w hS
                      obtain rfl : s0 = false := hi
                      obtain ⟨bb31, AA32, cc32, hF, hM⟩ := hS
                      refine eL 49 30 0 (v := .agg #[.int .i64 1, .int .i64 2097153]) hF hM (by kernel_rfl) rfl rfl (by kernel_rfl) (by kernel_rfl) fun a w hF hM => ?_
                      exact ⟨bb31, AA32, cc32, ((hF.repl 8 (by kernel_rfl)).cast (by kernel_rfl)), (hM.cast (by kernel_rfl))⟩
                    · intro s0 s1 s2 s3 s4 s5 s6 s7 s8 hc hi hp a w hS
                      obtain rfl : s1 = false := hi
                      obtain ⟨bb31, AA32, cc32, hF, hM⟩ := hS
                      refine eN 50 31 (t := 3) (fun b => .slice (some ⟨b, 0, none⟩) 2 2) #[.int .i64 5, .int .i64 0] hF hM (by kernel_rfl) (fun _ => by kernel_rfl) fun bb31 a w hF hM => ?_
                      exact ⟨bb31, AA32, cc32, ((hF.repl 9 (by kernel_rfl)).cast (by kernel_rfl)), ((hM.repl 2 (by kernel_rfl)).cast (by kernel_rfl))⟩
                    · intro s0 s1 s2 s3 s4 s5 s6 s7 s8 hc hi hp a w hS
                      obtain rfl : s2 = false := hi
                      obtain rfl : s1 = true := hp 1 (by kernel_rfl)
                      obtain ⟨bb31, AA32, cc32, hF, hM⟩ := hS
                      refine sOwn 32 (f := 31) (args := #[.slice (some ⟨bb31, 0, none⟩) 2 2]) (mk := fun v => v) (e := 30) (size := 2) (m := 1) (xs := (flat2 ([(5, 0)]))) hF hM (by kernel_rfl) rfl (by decide) (by kernel_rfl) (fun _ => by kernel_rfl) (trace_w (some ⟨bb31, 0, none⟩) [5, 0] 2 w (hM.roRow (k := 31) rfl) (by decide)) fun AA32 cc32 a w hF hM => ?_
                      exact ⟨bb31, AA32, cc32, ((hF.repl 10 (by kernel_rfl)).cast (by kernel_rfl)), ((hM.repl 3 (by kernel_rfl)).cast (by kernel_rfl))⟩
                    · intro s0 s1 s2 s3 s4 s5 s6 s7 s8 hc hi hp a w hS
                      obtain rfl : s3 = false := hi
                      obtain rfl : s2 = true := hp 2 (by kernel_rfl)
                      obtain rfl : s0 = true := hp 0 (by kernel_rfl)
                      obtain ⟨bb31, AA32, cc32, hF, hM⟩ := hS
                      refine eM 52 (v := .tuple #[.bool false, .int .i64 130]) hF hM (by kernel_rfl) (Yld.to (yld_call (f := 23) (args := #[.agg #[.int .i64 1, .int .i64 2097153], .slice AA32 1 cc32]) hF (by kernel_rfl) (fun _ => by kernel_rfl) (fun w hM => conforms_w 1 2097153 AA32 ([(5, 0)]) _ w (ro_of_own (hM.ok 32 _ rfl)))) (by kernel_rfl)) fun a w hF hM => ?_
                      exact ⟨bb31, AA32, cc32, ((hF.repl 11 (by kernel_rfl)).cast (by kernel_rfl)), (hM.cast (by kernel_rfl))⟩
                    · intro s0 s1 s2 s3 s4 s5 s6 s7 s8 hc hi hp a w hS
                      obtain rfl : s4 = false := hi
                      obtain rfl : s3 = true := hp 3 (by kernel_rfl)
                      obtain ⟨bb31, AA32, cc32, hF, hM⟩ := hS
                      refine eP 48 (v0 := .tuple #[.bool false, .int .i64 130]) (v := .tuple #[.bool false, .int .i64 130]) hF (by kernel_rfl) (fun _ => by kernel_rfl) rfl fun a hF => ?_
                      exact ⟨bb31, AA32, cc32, ((hF.repl 7 (by kernel_rfl)).cast (by kernel_rfl)), (hM.cast (by kernel_rfl))⟩
                    · intro s0 s1 s2 s3 s4 s5 s6 s7 s8 hc hi hp a w hS
                      obtain rfl : s5 = false := hi
                      obtain rfl : s4 = true := hp 4 (by kernel_rfl)
                      obtain ⟨bb31, AA32, cc32, hF, hM⟩ := hS
                      refine eP 53 (v0 := .bool false) (v := .bool false) hF (by kernel_rfl) (fun _ => by kernel_rfl) rfl fun a hF => ?_
                      exact ⟨bb31, AA32, cc32, ((hF.repl 12 (by kernel_rfl)).cast (by kernel_rfl)), (hM.cast (by kernel_rfl))⟩
                    · intro s0 s1 s2 s3 s4 s5 s6 s7 s8 hc hi hp a w hS
                      obtain rfl : s6 = false := hi
                      obtain rfl : s4 = true := hp 4 (by kernel_rfl)
                      obtain ⟨bb31, AA32, cc32, hF, hM⟩ := hS
                      refine eP 54 (v0 := .int .i64 130) (v := .int .i64 130) hF (by kernel_rfl) (fun _ => by kernel_rfl) rfl fun a hF => ?_
                      exact ⟨bb31, AA32, cc32, ((hF.repl 13 (by kernel_rfl)).cast (by kernel_rfl)), (hM.cast (by kernel_rfl))⟩
                    · intro s0 s1 s2 s3 s4 s5 s6 s7 s8 hc hi hp a w hS
                      obtain rfl : s7 = false := hi
                      obtain rfl : s5 = true := hp 5 (by kernel_rfl)
                      obtain ⟨bb31, AA32, cc32, hF, hM⟩ := hS
                      refine eP 4 (v0 := .bool false) (v := .bool false) hF (by kernel_rfl) (fun _ => by kernel_rfl) rfl fun a hF => ?_
                      exact ⟨bb31, AA32, cc32, ((hF.repl 3 (by kernel_rfl)).cast (by kernel_rfl)), (hM.cast (by kernel_rfl))⟩
                    · intro s0 s1 s2 s3 s4 s5 s6 s7 s8 hc hi hp a w hS
                      obtain rfl : s8 = false := hi
                      obtain rfl : s6 = true := hp 6 (by kernel_rfl)
                      obtain ⟨bb31, AA32, cc32, hF, hM⟩ := hS
                      refine eP 5 (v0 := .int .i64 130) (v := .int .i64 130) hF (by kernel_rfl) (fun _ => by kernel_rfl) rfl fun a hF => ?_
                      exact ⟨bb31, AA32, cc32, ((hF.repl 4 (by kernel_rfl)).cast (by kernel_rfl)), (hM.cast (by kernel_rfl))⟩
                  · intro a w hS
                    obtain ⟨bb31, AA32, cc32, hF, hM⟩ := hS
                    replace hF : Fr 253 [(0, some (.bool false)), (1, some (.pointer (some ⟨bb1, 0, none⟩))), (3, some (.pointer (some ⟨bb30, 0, none⟩))), (4, some (.bool false)), (5, some (.int .i64 130)), (44, some (.agg #[.int .i64 0, .int .i64 0, .int .i64 1, .int .i64 0, .int .i64 0, .int .i64 1, .int .i64 1048577, .int .i64 1, .int .i64 1, .int .i64 2097153, .int .i64 (-5), .int .i64 (-5)])), (45, some (.int .i64 4)), (48, some (.tuple #[.bool false, .int .i64 130])), (49, some (.agg #[.int .i64 1, .int .i64 2097153])), (50, some (.slice (some ⟨bb31, 0, none⟩) 2 2)), (51, some (.slice AA32 1 cc32)), (52, some (.tuple #[.bool false, .int .i64 130])), (53, some (.bool false)), (54, some (.int .i64 130))] a := hF.cast (by kernel_rfl)
                    replace hM : Mem w0.heap.size w0 [(1, some (.row bb1 23 #[.int .i64 1, .int .i64 1])), (30, some (.row bb30 23 #[.int .i64 1, .int .i64 2097153])), (31, some (.row bb31 3 #[.int .i64 5, .int .i64 0])), (32, some (.own (.slice AA32 1 cc32) 30 2 1 (flat2 ([(5, 0)]))))] w := hM.cast (by kernel_rfl)
                    refine hK50 _ _ ?_
                    refine wp_seq_k fun K51 hK51 => ?_
                    refine rF (by kernel_rfl) (by kernel_rfl) (fun S a w => ∃ bb33 : Nat, ∃ AA34 : Option Addr, ∃ cc34 : Nat, Fr 253 [(0, some (.bool false)), (1, some (.pointer (some ⟨bb1, 0, none⟩))), (3, some (.pointer (some ⟨bb30, 0, none⟩))), (5, some (.int .i64 130)), (6, (cond (S.getD 7 false) (some (.int .i64 0)) none)), (7, (cond (S.getD 8 false) (some (.int .i64 130)) none)), (44, some (.agg #[.int .i64 0, .int .i64 0, .int .i64 1, .int .i64 0, .int .i64 0, .int .i64 1, .int .i64 1048577, .int .i64 1, .int .i64 1, .int .i64 2097153, .int .i64 (-5), .int .i64 (-5)])), (45, some (.int .i64 4)), (55, (cond (S.getD 4 false) (some (.tuple #[.int .i64 0, .int .i64 130])) none)), (56, (cond (S.getD 0 false) (some (.agg #[.int .i64 1, .int .i64 2097153])) none)), (57, (cond (S.getD 1 false) (some (.slice (some ⟨bb33, 0, none⟩) 2 2)) none)), (58, (cond (S.getD 2 false) (some (.slice AA34 1 cc34)) none)), (59, (cond (S.getD 3 false) (some (.tuple #[.int .i64 0, .int .i64 130])) none)), (60, (cond (S.getD 5 false) (some (.int .i64 0)) none)), (61, (cond (S.getD 6 false) (some (.int .i64 130)) none))] a ∧ Mem w0.heap.size w0 [(1, some (.row bb1 23 #[.int .i64 1, .int .i64 1])), (30, some (.row bb30 23 #[.int .i64 1, .int .i64 2097153])), (33, (cond (S.getD 1 false) (some (.row bb33 3 #[.int .i64 5, .int .i64 0])) none)), (34, (cond (S.getD 2 false) (some (.own (.slice AA34 1 cc34) 30 2 1 (flat2 ([(5, 0)])))) none))] w) ?_ ?_ ?_
                    · exact ⟨0, none, 0, ((((((((((((((((Fr.nil hF).co hF (i := 61) (by kernel_rfl)).co hF (i := 60) (by kernel_rfl)).co hF (i := 59) (by kernel_rfl)).co hF (i := 58) (by kernel_rfl)).co hF (i := 57) (by kernel_rfl)).co hF (i := 56) (by kernel_rfl)).co hF (i := 55) (by kernel_rfl)).co hF (i := 45) (by kernel_rfl)).co hF (i := 44) (by kernel_rfl)).co hF (i := 7) (by kernel_rfl)).co hF (i := 6) (by kernel_rfl)).co hF (i := 5) (by kernel_rfl)).co hF (i := 3) (by kernel_rfl)).co hF (i := 1) (by kernel_rfl)).co hF (i := 0) (by kernel_rfl)), hM.drew.sub ((((Sub.nil.co (k := 34) (by kernel_rfl)).co (k := 33) (by kernel_rfl)).co (k := 30) (by kernel_rfl)).co (k := 1) (by kernel_rfl))⟩
                    · refine stC ?_ (stC ?_ (stC ?_ (stC ?_ (stC ?_ (stC ?_ (stC ?_ (stC ?_ (stC ?_ (trivial)))))))))
                      · intro s0 s1 s2 s3 s4 s5 s6 s7 s8 hc hi hp a w hS
                        obtain rfl : s0 = false := hi
                        obtain ⟨bb33, AA34, cc34, hF, hM⟩ := hS
                        refine eL 56 30 0 (v := .agg #[.int .i64 1, .int .i64 2097153]) hF hM (by kernel_rfl) rfl rfl (by kernel_rfl) (by kernel_rfl) fun a w hF hM => ?_
                        exact ⟨bb33, AA34, cc34, ((hF.repl 9 (by kernel_rfl)).cast (by kernel_rfl)), (hM.cast (by kernel_rfl))⟩
                      · intro s0 s1 s2 s3 s4 s5 s6 s7 s8 hc hi hp a w hS
                        obtain rfl : s1 = false := hi
                        obtain ⟨bb33, AA34, cc34, hF, hM⟩ := hS
                        refine eN 57 33 (t := 3) (fun b => .slice (some ⟨b, 0, none⟩) 2 2) #[.int .i64 5, .int .i64 0] hF hM (by kernel_rfl) (fun _ => by kernel_rfl) fun bb33 a w hF hM => ?_
                        exact ⟨bb33, AA34, cc34, ((hF.repl 10 (by kernel_rfl)).cast (by kernel_rfl)), ((hM.repl 2 (by kernel_rfl)).cast (by kernel_rfl))⟩
                      · intro s0 s1 s2 s3 s4 s5 s6 s7 s8 hc hi hp a w hS
                        obtain rfl : s2 = false := hi
                        obtain rfl : s1 = true := hp 1 (by kernel_rfl)
                        obtain ⟨bb33, AA34, cc34, hF, hM⟩ := hS
                        refine sOwn 34 (f := 31) (args := #[.slice (some ⟨bb33, 0, none⟩) 2 2]) (mk := fun v => v) (e := 30) (size := 2) (m := 1) (xs := (flat2 ([(5, 0)]))) hF hM (by kernel_rfl) rfl (by decide) (by kernel_rfl) (fun _ => by kernel_rfl) (trace_w (some ⟨bb33, 0, none⟩) [5, 0] 2 w (hM.roRow (k := 33) rfl) (by decide)) fun AA34 cc34 a w hF hM => ?_
                        exact ⟨bb33, AA34, cc34, ((hF.repl 11 (by kernel_rfl)).cast (by kernel_rfl)), ((hM.repl 3 (by kernel_rfl)).cast (by kernel_rfl))⟩
                      · intro s0 s1 s2 s3 s4 s5 s6 s7 s8 hc hi hp a w hS
                        obtain rfl : s3 = false := hi
                        obtain rfl : s2 = true := hp 2 (by kernel_rfl)
                        obtain rfl : s0 = true := hp 0 (by kernel_rfl)
                        obtain ⟨bb33, AA34, cc34, hF, hM⟩ := hS
                        refine eM 59 (v := .tuple #[.int .i64 0, .int .i64 130]) hF hM (by kernel_rfl) (Yld.to (yld_call (f := 25) (args := #[.agg #[.int .i64 1, .int .i64 2097153], .slice AA34 1 cc34]) hF (by kernel_rfl) (fun _ => by kernel_rfl) (fun w hM => bFirst_w 1 2097153 AA34 ([(5, 0)]) _ w (ro_of_own (hM.ok 34 _ rfl)))) (by kernel_rfl)) fun a w hF hM => ?_
                        exact ⟨bb33, AA34, cc34, ((hF.repl 12 (by kernel_rfl)).cast (by kernel_rfl)), (hM.cast (by kernel_rfl))⟩
                      · intro s0 s1 s2 s3 s4 s5 s6 s7 s8 hc hi hp a w hS
                        obtain rfl : s4 = false := hi
                        obtain rfl : s3 = true := hp 3 (by kernel_rfl)
                        obtain ⟨bb33, AA34, cc34, hF, hM⟩ := hS
                        refine eP 55 (v0 := .tuple #[.int .i64 0, .int .i64 130]) (v := .tuple #[.int .i64 0, .int .i64 130]) hF (by kernel_rfl) (fun _ => by kernel_rfl) rfl fun a hF => ?_
                        exact ⟨bb33, AA34, cc34, ((hF.repl 8 (by kernel_rfl)).cast (by kernel_rfl)), (hM.cast (by kernel_rfl))⟩
                      · intro s0 s1 s2 s3 s4 s5 s6 s7 s8 hc hi hp a w hS
                        obtain rfl : s5 = false := hi
                        obtain rfl : s4 = true := hp 4 (by kernel_rfl)
                        obtain ⟨bb33, AA34, cc34, hF, hM⟩ := hS
                        refine eP 60 (v0 := .int .i64 0) (v := .int .i64 0) hF (by kernel_rfl) (fun _ => by kernel_rfl) rfl fun a hF => ?_
                        exact ⟨bb33, AA34, cc34, ((hF.repl 13 (by kernel_rfl)).cast (by kernel_rfl)), (hM.cast (by kernel_rfl))⟩
                      · intro s0 s1 s2 s3 s4 s5 s6 s7 s8 hc hi hp a w hS
                        obtain rfl : s6 = false := hi
                        obtain rfl : s4 = true := hp 4 (by kernel_rfl)
                        obtain ⟨bb33, AA34, cc34, hF, hM⟩ := hS
                        refine eP 61 (v0 := .int .i64 130) (v := .int .i64 130) hF (by kernel_rfl) (fun _ => by kernel_rfl) rfl fun a hF => ?_
                        exact ⟨bb33, AA34, cc34, ((hF.repl 14 (by kernel_rfl)).cast (by kernel_rfl)), (hM.cast (by kernel_rfl))⟩
                      · intro s0 s1 s2 s3 s4 s5 s6 s7 s8 hc hi hp a w hS
                        obtain rfl : s7 = false := hi
                        obtain rfl : s5 = true := hp 5 (by kernel_rfl)
                        obtain ⟨bb33, AA34, cc34, hF, hM⟩ := hS
                        refine eP 6 (v0 := .int .i64 0) (v := .int .i64 0) hF (by kernel_rfl) (fun _ => by kernel_rfl) rfl fun a hF => ?_
                        exact ⟨bb33, AA34, cc34, ((hF.repl 4 (by kernel_rfl)).cast (by kernel_rfl)), (hM.cast (by kernel_rfl))⟩
                      · intro s0 s1 s2 s3 s4 s5 s6 s7 s8 hc hi hp a w hS
                        obtain rfl : s8 = false := hi
                        obtain rfl : s6 = true := hp 6 (by kernel_rfl)
                        obtain ⟨bb33, AA34, cc34, hF, hM⟩ := hS
                        refine eP 7 (v0 := .int .i64 130) (v := .int .i64 130) hF (by kernel_rfl) (fun _ => by kernel_rfl) rfl fun a hF => ?_
                        exact ⟨bb33, AA34, cc34, ((hF.repl 5 (by kernel_rfl)).cast (by kernel_rfl)), (hM.cast (by kernel_rfl))⟩
                    · intro a w hS
                      obtain ⟨bb33, AA34, cc34, hF, hM⟩ := hS
                      replace hF : Fr 253 [(0, some (.bool false)), (1, some (.pointer (some ⟨bb1, 0, none⟩))), (3, some (.pointer (some ⟨bb30, 0, none⟩))), (5, some (.int .i64 130)), (6, some (.int .i64 0)), (7, some (.int .i64 130)), (44, some (.agg #[.int .i64 0, .int .i64 0, .int .i64 1, .int .i64 0, .int .i64 0, .int .i64 1, .int .i64 1048577, .int .i64 1, .int .i64 1, .int .i64 2097153, .int .i64 (-5), .int .i64 (-5)])), (45, some (.int .i64 4)), (55, some (.tuple #[.int .i64 0, .int .i64 130])), (56, some (.agg #[.int .i64 1, .int .i64 2097153])), (57, some (.slice (some ⟨bb33, 0, none⟩) 2 2)), (58, some (.slice AA34 1 cc34)), (59, some (.tuple #[.int .i64 0, .int .i64 130])), (60, some (.int .i64 0)), (61, some (.int .i64 130))] a := hF.cast (by kernel_rfl)
                      replace hM : Mem w0.heap.size w0 [(1, some (.row bb1 23 #[.int .i64 1, .int .i64 1])), (30, some (.row bb30 23 #[.int .i64 1, .int .i64 2097153])), (33, some (.row bb33 3 #[.int .i64 5, .int .i64 0])), (34, some (.own (.slice AA34 1 cc34) 30 2 1 (flat2 ([(5, 0)]))))] w := hM.cast (by kernel_rfl)
                      refine hK51 _ _ ?_
                      refine wp_seq_k fun K52 hK52 => ?_
                      refine wp_region_lit ?_
                      refine wl (eL 63 30 0 (v := .agg #[.int .i64 1, .int .i64 2097153]) hF hM (by kernel_rfl) rfl rfl (by kernel_rfl) (by kernel_rfl) fun a w hF hM => ?_)
                      refine wl (eM 64 (v := .tuple #[.int .i64 0, .int .i64 130]) hF hM (by kernel_rfl) (Yld.to (yld_call (f := 13) (args := #[.agg #[.int .i64 1, .int .i64 2097153], .int .i64 (-1)]) hF (by kernel_rfl) (fun _ => by kernel_rfl) (fun w hM => bWithin_w 1 2097153 (-1) w)) (by kernel_rfl)) fun a w hF hM => ?_)
                      refine sB 5 [(62, .tuple #[.int .i64 0, .int .i64 130]), (65, .int .i64 0), (66, .int .i64 130), (8, .int .i64 0), (9, .int .i64 130)] hF (by kernel_rfl) fun a hF => ?_
                      refine wpList_nil ?_
                      refine hK52 _ _ ?_
                      refine wp_seq_k fun K53 hK53 => ?_
                      refine wp_region_lit ?_
                      refine wl (eL 68 1 0 (v := .agg #[.int .i64 1, .int .i64 1]) hF hM (by kernel_rfl) rfl rfl (by kernel_rfl) (by kernel_rfl) fun a w hF hM => ?_)
                      refine wl (eL 69 30 0 (v := .agg #[.int .i64 1, .int .i64 2097153]) hF hM (by kernel_rfl) rfl rfl (by kernel_rfl) (by kernel_rfl) fun a w hF hM => ?_)
                      refine wl (eN 70 35 (t := 23) (fun b => .slice (some ⟨b, 0, none⟩) 2 2) #[.int .i64 1, .int .i64 1, .int .i64 1, .int .i64 2097153] hF hM (by kernel_rfl) (fun _ => by kernel_rfl) fun bb35 a w hF hM => ?_)
                      refine wl (eM 71 (v := .tuple #[.agg #[.int .i64 0, .int .i64 0], .int .i64 130]) hF hM (by kernel_rfl) (Yld.to (yld_call (f := 11) (args := #[.slice (some ⟨bb35, 0, none⟩) 2 2]) hF (by kernel_rfl) (fun _ => by kernel_rfl) (fun w hM => bSum_w (some ⟨bb35, 0, none⟩) [(1, 1), (1, 2097153)] _ w (hM.roRow (k := 35) rfl))) (by kernel_rfl)) fun a w hF hM => ?_)
                      refine sB 3 [(67, .tuple #[.agg #[.int .i64 0, .int .i64 0], .int .i64 130]), (72, .agg #[.int .i64 0, .int .i64 0]), (73, .int .i64 130)] hF (by kernel_rfl) fun a hF => ?_
                      refine wl (eN 10 36 (t := 23) (fun b => .pointer (some ⟨b, 0, none⟩)) #[.int .i64 0, .int .i64 0] hF hM (by kernel_rfl) (fun _ => by kernel_rfl) fun bb36 a w hF hM => ?_)
                      refine wl (sStore (i := 36) (off := 0) (cs' := #[.int .i64 0, .int .i64 0]) hF hM (by kernel_rfl) rfl rfl (by kernel_rfl) (by kernel_rfl) rfl (by kernel_rfl) fun w hM => ?_)
                      refine sB 1 [(11, .int .i64 130)] hF (by kernel_rfl) fun a hF => ?_
                      refine wpList_nil ?_
                      refine hK53 _ _ ?_
                      refine wp_seq_k fun K54 hK54 => ?_
                      refine wp_region_lit ?_
                      refine wl (eL 74 30 0 (v := .agg #[.int .i64 1, .int .i64 2097153]) hF hM (by kernel_rfl) rfl rfl (by kernel_rfl) (by kernel_rfl) fun a w hF hM => ?_)
                      refine wl (eM 75 (v := .int .i64 130) hF hM (by kernel_rfl) (Yld.to (yld_call (f := 15) (args := #[.agg #[.int .i64 1, .int .i64 2097153]]) hF (by kernel_rfl) (fun _ => by kernel_rfl) (fun w hM => bkCheck_w 1 2097153 w)) (by kernel_rfl)) fun a w hF hM => ?_)
                      refine wl (eP 76 (v0 := .bool (!decide (130 = 130))) (v := .bool false) hF (by kernel_rfl) (fun _ => by kernel_rfl) (nT (by omega)) fun a hF => ?_)
                      refine sB 2 [(77, .bool false), (78, .int .i64 130)] hF (by kernel_rfl) fun a hF => ?_
                      refine wl (eP 79 (v0 := .bool (!decide (130 = 130))) (v := .bool false) hF (by kernel_rfl) (fun _ => by kernel_rfl) (nT (by omega)) fun a hF => ?_)
                      refine sB 3 [(80, .bool false), (81, .bool false), (82, .int .i64 130)] hF (by kernel_rfl) fun a hF => ?_
                      refine wl (eP 83 (v0 := .bool (!decide (130 = 130))) (v := .bool false) hF (by kernel_rfl) (fun _ => by kernel_rfl) (nT (by omega)) fun a hF => ?_)
                      refine sB 3 [(84, .bool false), (85, .bool false), (86, .int .i64 130)] hF (by kernel_rfl) fun a hF => ?_
                      refine wl (eP 87 (v0 := .bool (!decide (130 = 130))) (v := .bool false) hF (by kernel_rfl) (fun _ => by kernel_rfl) (nT (by omega)) fun a hF => ?_)
                      refine sB 3 [(88, .bool false), (89, .bool false), (90, .int .i64 130)] hF (by kernel_rfl) fun a hF => ?_
                      refine wl (eP 91 (v0 := .bool (!decide (130 = 130))) (v := .bool false) hF (by kernel_rfl) (fun _ => by kernel_rfl) (nT (by omega)) fun a hF => ?_)
                      refine sB 1 [(92, .bool false)] hF (by kernel_rfl) fun a hF => ?_
                      refine wpList_nil ?_
                      refine hK54 _ _ ?_
                      refine cF hF (by kernel_rfl) (by kernel_rfl) ?_
                      refine wp_skip ?_
                      refine hK48 _ _ ?_
                      refine wp_region_lit ?_
                      refine wl (eP 93 (v0 := .int .i64 (IntKind.i64.wrap (4 + 1))) (v := .int .i64 5) hF (by kernel_rfl) (fun _ => by kernel_rfl) (vi (by decide)) fun a hF => ?_)
                      refine sB 1 [(45, .int .i64 5)] hF (by kernel_rfl) fun a hF => ?_
                      refine wpList_nil ?_
                      refine hK45 _ _ ?_
                      refine rounds_k fun K55 hK55 => ?_
                      refine wp_seq_k fun K56 hK56 => ?_
                      refine wp_region_lit ?_
                      refine wl (eP 46 (v0 := .bool (decide (5 < 6))) (v := .bool true) hF (by kernel_rfl) (fun _ => by kernel_rfl) (bT (by omega)) fun a hF => ?_)
                      refine wpList_nil ?_
                      refine hK56 _ _ ?_
                      refine wp_seq_k fun K57 hK57 => ?_
                      refine cT hF (by kernel_rfl) (by kernel_rfl) ?_
                      refine wp_skip ?_
                      refine hK57 _ _ ?_
                      refine wp_seq_k fun K58 hK58 => ?_
                      refine wp_block ?_
                      refine wp_seq_k fun K59 hK59 => ?_
                      refine wp_region_lit ?_
                      refine sB 1 [(47, .agg #[.int .i64 (-5), .int .i64 (-5)])] hF (by kernel_rfl) fun a hF => ?_
                      refine wl (eN 3 37 (t := 23) (fun b => .pointer (some ⟨b, 0, none⟩)) #[.int .i64 0, .int .i64 0] hF hM (by kernel_rfl) (fun _ => by kernel_rfl) fun bb37 a w hF hM => ?_)
                      refine wl (sStore (i := 37) (off := 0) (cs' := #[.int .i64 (-5), .int .i64 (-5)]) hF hM (by kernel_rfl) rfl rfl (by kernel_rfl) (by kernel_rfl) rfl (by kernel_rfl) fun w hM => ?_)
                      refine wpList_nil ?_
                      refine hK59 _ _ ?_
                      refine wp_seq_k fun K60 hK60 => ?_
                      refine rF (by kernel_rfl) (by kernel_rfl) (fun S a w => ∃ bb38 : Nat, ∃ AA39 : Option Addr, ∃ cc39 : Nat, Fr 253 [(0, some (.bool false)), (1, some (.pointer (some ⟨bb1, 0, none⟩))), (3, some (.pointer (some ⟨bb37, 0, none⟩))), (4, (cond (S.getD 7 false) (some (.bool false)) none)), (5, (cond (S.getD 8 false) (some (.int .i64 130)) (some (.int .i64 130)))), (44, some (.agg #[.int .i64 0, .int .i64 0, .int .i64 1, .int .i64 0, .int .i64 0, .int .i64 1, .int .i64 1048577, .int .i64 1, .int .i64 1, .int .i64 2097153, .int .i64 (-5), .int .i64 (-5)])), (45, some (.int .i64 5)), (48, (cond (S.getD 4 false) (some (.tuple #[.bool false, .int .i64 130])) none)), (49, (cond (S.getD 0 false) (some (.agg #[.int .i64 (-5), .int .i64 (-5)])) none)), (50, (cond (S.getD 1 false) (some (.slice (some ⟨bb38, 0, none⟩) 2 2)) none)), (51, (cond (S.getD 2 false) (some (.slice AA39 1 cc39)) none)), (52, (cond (S.getD 3 false) (some (.tuple #[.bool false, .int .i64 130])) none)), (53, (cond (S.getD 5 false) (some (.bool false)) none)), (54, (cond (S.getD 6 false) (some (.int .i64 130)) none))] a ∧ Mem w0.heap.size w0 [(1, some (.row bb1 23 #[.int .i64 1, .int .i64 1])), (37, some (.row bb37 23 #[.int .i64 (-5), .int .i64 (-5)])), (38, (cond (S.getD 1 false) (some (.row bb38 3 #[.int .i64 5, .int .i64 0])) none)), (39, (cond (S.getD 2 false) (some (.own (.slice AA39 1 cc39) 30 2 1 (flat2 ([(5, 0)])))) none))] w) ?_ ?_ ?_
                      · exact ⟨0, none, 0, (((((((((((((((Fr.nil hF).co hF (i := 54) (by kernel_rfl)).co hF (i := 53) (by kernel_rfl)).co hF (i := 52) (by kernel_rfl)).co hF (i := 51) (by kernel_rfl)).co hF (i := 50) (by kernel_rfl)).co hF (i := 49) (by kernel_rfl)).co hF (i := 48) (by kernel_rfl)).co hF (i := 45) (by kernel_rfl)).co hF (i := 44) (by kernel_rfl)).co hF (i := 5) (by kernel_rfl)).co hF (i := 4) (by kernel_rfl)).co hF (i := 3) (by kernel_rfl)).co hF (i := 1) (by kernel_rfl)).co hF (i := 0) (by kernel_rfl)), hM.drew.sub ((((Sub.nil.co (k := 39) (by kernel_rfl)).co (k := 38) (by kernel_rfl)).co (k := 37) (by kernel_rfl)).co (k := 1) (by kernel_rfl))⟩
                      · refine stC ?_ (stC ?_ (stC ?_ (stC ?_ (stC ?_ (stC ?_ (stC ?_ (stC ?_ (stC ?_ (trivial)))))))))
                        · intro s0 s1 s2 s3 s4 s5 s6 s7 s8 hc hi hp a w hS
                          obtain rfl : s0 = false := hi
                          obtain ⟨bb38, AA39, cc39, hF, hM⟩ := hS
                          refine eL 49 37 0 (v := .agg #[.int .i64 (-5), .int .i64 (-5)]) hF hM (by kernel_rfl) rfl rfl (by kernel_rfl) (by kernel_rfl) fun a w hF hM => ?_
                          exact ⟨bb38, AA39, cc39, ((hF.repl 8 (by kernel_rfl)).cast (by kernel_rfl)), (hM.cast (by kernel_rfl))⟩
                        · intro s0 s1 s2 s3 s4 s5 s6 s7 s8 hc hi hp a w hS
                          obtain rfl : s1 = false := hi
                          obtain ⟨bb38, AA39, cc39, hF, hM⟩ := hS
                          refine eN 50 38 (t := 3) (fun b => .slice (some ⟨b, 0, none⟩) 2 2) #[.int .i64 5, .int .i64 0] hF hM (by kernel_rfl) (fun _ => by kernel_rfl) fun bb38 a w hF hM => ?_
                          exact ⟨bb38, AA39, cc39, ((hF.repl 9 (by kernel_rfl)).cast (by kernel_rfl)), ((hM.repl 2 (by kernel_rfl)).cast (by kernel_rfl))⟩
                        · intro s0 s1 s2 s3 s4 s5 s6 s7 s8 hc hi hp a w hS
                          obtain rfl : s2 = false := hi
                          obtain rfl : s1 = true := hp 1 (by kernel_rfl)
                          obtain ⟨bb38, AA39, cc39, hF, hM⟩ := hS
                          refine sOwn 39 (f := 31) (args := #[.slice (some ⟨bb38, 0, none⟩) 2 2]) (mk := fun v => v) (e := 30) (size := 2) (m := 1) (xs := (flat2 ([(5, 0)]))) hF hM (by kernel_rfl) rfl (by decide) (by kernel_rfl) (fun _ => by kernel_rfl) (trace_w (some ⟨bb38, 0, none⟩) [5, 0] 2 w (hM.roRow (k := 38) rfl) (by decide)) fun AA39 cc39 a w hF hM => ?_
                          exact ⟨bb38, AA39, cc39, ((hF.repl 10 (by kernel_rfl)).cast (by kernel_rfl)), ((hM.repl 3 (by kernel_rfl)).cast (by kernel_rfl))⟩
                        · intro s0 s1 s2 s3 s4 s5 s6 s7 s8 hc hi hp a w hS
                          obtain rfl : s3 = false := hi
                          obtain rfl : s2 = true := hp 2 (by kernel_rfl)
                          obtain rfl : s0 = true := hp 0 (by kernel_rfl)
                          obtain ⟨bb38, AA39, cc39, hF, hM⟩ := hS
                          refine eM 52 (v := .tuple #[.bool false, .int .i64 130]) hF hM (by kernel_rfl) (Yld.to (yld_call (f := 23) (args := #[.agg #[.int .i64 (-5), .int .i64 (-5)], .slice AA39 1 cc39]) hF (by kernel_rfl) (fun _ => by kernel_rfl) (fun w hM => conforms_w (-5) (-5) AA39 ([(5, 0)]) _ w (ro_of_own (hM.ok 39 _ rfl)))) (by kernel_rfl)) fun a w hF hM => ?_
                          exact ⟨bb38, AA39, cc39, ((hF.repl 11 (by kernel_rfl)).cast (by kernel_rfl)), (hM.cast (by kernel_rfl))⟩
                        · intro s0 s1 s2 s3 s4 s5 s6 s7 s8 hc hi hp a w hS
                          obtain rfl : s4 = false := hi
                          obtain rfl : s3 = true := hp 3 (by kernel_rfl)
                          obtain ⟨bb38, AA39, cc39, hF, hM⟩ := hS
                          refine eP 48 (v0 := .tuple #[.bool false, .int .i64 130]) (v := .tuple #[.bool false, .int .i64 130]) hF (by kernel_rfl) (fun _ => by kernel_rfl) rfl fun a hF => ?_
                          exact ⟨bb38, AA39, cc39, ((hF.repl 7 (by kernel_rfl)).cast (by kernel_rfl)), (hM.cast (by kernel_rfl))⟩
                        · intro s0 s1 s2 s3 s4 s5 s6 s7 s8 hc hi hp a w hS
                          obtain rfl : s5 = false := hi
                          obtain rfl : s4 = true := hp 4 (by kernel_rfl)
                          obtain ⟨bb38, AA39, cc39, hF, hM⟩ := hS
                          refine eP 53 (v0 := .bool false) (v := .bool false) hF (by kernel_rfl) (fun _ => by kernel_rfl) rfl fun a hF => ?_
                          exact ⟨bb38, AA39, cc39, ((hF.repl 12 (by kernel_rfl)).cast (by kernel_rfl)), (hM.cast (by kernel_rfl))⟩
                        · intro s0 s1 s2 s3 s4 s5 s6 s7 s8 hc hi hp a w hS
                          obtain rfl : s6 = false := hi
                          obtain rfl : s4 = true := hp 4 (by kernel_rfl)
                          obtain ⟨bb38, AA39, cc39, hF, hM⟩ := hS
                          refine eP 54 (v0 := .int .i64 130) (v := .int .i64 130) hF (by kernel_rfl) (fun _ => by kernel_rfl) rfl fun a hF => ?_
                          exact ⟨bb38, AA39, cc39, ((hF.repl 13 (by kernel_rfl)).cast (by kernel_rfl)), (hM.cast (by kernel_rfl))⟩
                        · intro s0 s1 s2 s3 s4 s5 s6 s7 s8 hc hi hp a w hS
                          obtain rfl : s7 = false := hi
                          obtain rfl : s5 = true := hp 5 (by kernel_rfl)
                          obtain ⟨bb38, AA39, cc39, hF, hM⟩ := hS
                          refine eP 4 (v0 := .bool false) (v := .bool false) hF (by kernel_rfl) (fun _ => by kernel_rfl) rfl fun a hF => ?_
                          exact ⟨bb38, AA39, cc39, ((hF.repl 3 (by kernel_rfl)).cast (by kernel_rfl)), (hM.cast (by kernel_rfl))⟩
                        · intro s0 s1 s2 s3 s4 s5 s6 s7 s8 hc hi hp a w hS
                          obtain rfl : s8 = false := hi
                          obtain rfl : s6 = true := hp 6 (by kernel_rfl)
                          obtain ⟨bb38, AA39, cc39, hF, hM⟩ := hS
                          refine eP 5 (v0 := .int .i64 130) (v := .int .i64 130) hF (by kernel_rfl) (fun _ => by kernel_rfl) rfl fun a hF => ?_
                          exact ⟨bb38, AA39, cc39, ((hF.repl 4 (by kernel_rfl)).cast (by kernel_rfl)), (hM.cast (by kernel_rfl))⟩
                      · intro a w hS
                        obtain ⟨bb38, AA39, cc39, hF, hM⟩ := hS
                        replace hF : Fr 253 [(0, some (.bool false)), (1, some (.pointer (some ⟨bb1, 0, none⟩))), (3, some (.pointer (some ⟨bb37, 0, none⟩))), (4, some (.bool false)), (5, some (.int .i64 130)), (44, some (.agg #[.int .i64 0, .int .i64 0, .int .i64 1, .int .i64 0, .int .i64 0, .int .i64 1, .int .i64 1048577, .int .i64 1, .int .i64 1, .int .i64 2097153, .int .i64 (-5), .int .i64 (-5)])), (45, some (.int .i64 5)), (48, some (.tuple #[.bool false, .int .i64 130])), (49, some (.agg #[.int .i64 (-5), .int .i64 (-5)])), (50, some (.slice (some ⟨bb38, 0, none⟩) 2 2)), (51, some (.slice AA39 1 cc39)), (52, some (.tuple #[.bool false, .int .i64 130])), (53, some (.bool false)), (54, some (.int .i64 130))] a := hF.cast (by kernel_rfl)
                        replace hM : Mem w0.heap.size w0 [(1, some (.row bb1 23 #[.int .i64 1, .int .i64 1])), (37, some (.row bb37 23 #[.int .i64 (-5), .int .i64 (-5)])), (38, some (.row bb38 3 #[.int .i64 5, .int .i64 0])), (39, some (.own (.slice AA39 1 cc39) 30 2 1 (flat2 ([(5, 0)]))))] w := hM.cast (by kernel_rfl)
                        refine hK60 _ _ ?_
                        refine wp_seq_k fun K61 hK61 => ?_
                        refine rF (by kernel_rfl) (by kernel_rfl) (fun S a w => ∃ bb40 : Nat, ∃ AA41 : Option Addr, ∃ cc41 : Nat, Fr 253 [(0, some (.bool false)), (1, some (.pointer (some ⟨bb1, 0, none⟩))), (3, some (.pointer (some ⟨bb37, 0, none⟩))), (5, some (.int .i64 130)), (6, (cond (S.getD 7 false) (some (.int .i64 0)) none)), (7, (cond (S.getD 8 false) (some (.int .i64 130)) none)), (44, some (.agg #[.int .i64 0, .int .i64 0, .int .i64 1, .int .i64 0, .int .i64 0, .int .i64 1, .int .i64 1048577, .int .i64 1, .int .i64 1, .int .i64 2097153, .int .i64 (-5), .int .i64 (-5)])), (45, some (.int .i64 5)), (55, (cond (S.getD 4 false) (some (.tuple #[.int .i64 0, .int .i64 130])) none)), (56, (cond (S.getD 0 false) (some (.agg #[.int .i64 (-5), .int .i64 (-5)])) none)), (57, (cond (S.getD 1 false) (some (.slice (some ⟨bb40, 0, none⟩) 2 2)) none)), (58, (cond (S.getD 2 false) (some (.slice AA41 1 cc41)) none)), (59, (cond (S.getD 3 false) (some (.tuple #[.int .i64 0, .int .i64 130])) none)), (60, (cond (S.getD 5 false) (some (.int .i64 0)) none)), (61, (cond (S.getD 6 false) (some (.int .i64 130)) none))] a ∧ Mem w0.heap.size w0 [(1, some (.row bb1 23 #[.int .i64 1, .int .i64 1])), (37, some (.row bb37 23 #[.int .i64 (-5), .int .i64 (-5)])), (40, (cond (S.getD 1 false) (some (.row bb40 3 #[.int .i64 5, .int .i64 0])) none)), (41, (cond (S.getD 2 false) (some (.own (.slice AA41 1 cc41) 30 2 1 (flat2 ([(5, 0)])))) none))] w) ?_ ?_ ?_
                        · exact ⟨0, none, 0, ((((((((((((((((Fr.nil hF).co hF (i := 61) (by kernel_rfl)).co hF (i := 60) (by kernel_rfl)).co hF (i := 59) (by kernel_rfl)).co hF (i := 58) (by kernel_rfl)).co hF (i := 57) (by kernel_rfl)).co hF (i := 56) (by kernel_rfl)).co hF (i := 55) (by kernel_rfl)).co hF (i := 45) (by kernel_rfl)).co hF (i := 44) (by kernel_rfl)).co hF (i := 7) (by kernel_rfl)).co hF (i := 6) (by kernel_rfl)).co hF (i := 5) (by kernel_rfl)).co hF (i := 3) (by kernel_rfl)).co hF (i := 1) (by kernel_rfl)).co hF (i := 0) (by kernel_rfl)), hM.drew.sub ((((Sub.nil.co (k := 41) (by kernel_rfl)).co (k := 40) (by kernel_rfl)).co (k := 37) (by kernel_rfl)).co (k := 1) (by kernel_rfl))⟩
                        · refine stC ?_ (stC ?_ (stC ?_ (stC ?_ (stC ?_ (stC ?_ (stC ?_ (stC ?_ (stC ?_ (trivial)))))))))
                          · intro s0 s1 s2 s3 s4 s5 s6 s7 s8 hc hi hp a w hS
                            obtain rfl : s0 = false := hi
                            obtain ⟨bb40, AA41, cc41, hF, hM⟩ := hS
                            refine eL 56 37 0 (v := .agg #[.int .i64 (-5), .int .i64 (-5)]) hF hM (by kernel_rfl) rfl rfl (by kernel_rfl) (by kernel_rfl) fun a w hF hM => ?_
                            exact ⟨bb40, AA41, cc41, ((hF.repl 9 (by kernel_rfl)).cast (by kernel_rfl)), (hM.cast (by kernel_rfl))⟩
                          · intro s0 s1 s2 s3 s4 s5 s6 s7 s8 hc hi hp a w hS
                            obtain rfl : s1 = false := hi
                            obtain ⟨bb40, AA41, cc41, hF, hM⟩ := hS
                            refine eN 57 40 (t := 3) (fun b => .slice (some ⟨b, 0, none⟩) 2 2) #[.int .i64 5, .int .i64 0] hF hM (by kernel_rfl) (fun _ => by kernel_rfl) fun bb40 a w hF hM => ?_
                            exact ⟨bb40, AA41, cc41, ((hF.repl 10 (by kernel_rfl)).cast (by kernel_rfl)), ((hM.repl 2 (by kernel_rfl)).cast (by kernel_rfl))⟩
                          · intro s0 s1 s2 s3 s4 s5 s6 s7 s8 hc hi hp a w hS
                            obtain rfl : s2 = false := hi
                            obtain rfl : s1 = true := hp 1 (by kernel_rfl)
                            obtain ⟨bb40, AA41, cc41, hF, hM⟩ := hS
                            refine sOwn 41 (f := 31) (args := #[.slice (some ⟨bb40, 0, none⟩) 2 2]) (mk := fun v => v) (e := 30) (size := 2) (m := 1) (xs := (flat2 ([(5, 0)]))) hF hM (by kernel_rfl) rfl (by decide) (by kernel_rfl) (fun _ => by kernel_rfl) (trace_w (some ⟨bb40, 0, none⟩) [5, 0] 2 w (hM.roRow (k := 40) rfl) (by decide)) fun AA41 cc41 a w hF hM => ?_
                            exact ⟨bb40, AA41, cc41, ((hF.repl 11 (by kernel_rfl)).cast (by kernel_rfl)), ((hM.repl 3 (by kernel_rfl)).cast (by kernel_rfl))⟩
                          · intro s0 s1 s2 s3 s4 s5 s6 s7 s8 hc hi hp a w hS
                            obtain rfl : s3 = false := hi
                            obtain rfl : s2 = true := hp 2 (by kernel_rfl)
                            obtain rfl : s0 = true := hp 0 (by kernel_rfl)
                            obtain ⟨bb40, AA41, cc41, hF, hM⟩ := hS
                            refine eM 59 (v := .tuple #[.int .i64 0, .int .i64 130]) hF hM (by kernel_rfl) (Yld.to (yld_call (f := 25) (args := #[.agg #[.int .i64 (-5), .int .i64 (-5)], .slice AA41 1 cc41]) hF (by kernel_rfl) (fun _ => by kernel_rfl) (fun w hM => bFirst_w (-5) (-5) AA41 ([(5, 0)]) _ w (ro_of_own (hM.ok 41 _ rfl)))) (by kernel_rfl)) fun a w hF hM => ?_
                            exact ⟨bb40, AA41, cc41, ((hF.repl 12 (by kernel_rfl)).cast (by kernel_rfl)), (hM.cast (by kernel_rfl))⟩
                          · intro s0 s1 s2 s3 s4 s5 s6 s7 s8 hc hi hp a w hS
                            obtain rfl : s4 = false := hi
                            obtain rfl : s3 = true := hp 3 (by kernel_rfl)
                            obtain ⟨bb40, AA41, cc41, hF, hM⟩ := hS
                            refine eP 55 (v0 := .tuple #[.int .i64 0, .int .i64 130]) (v := .tuple #[.int .i64 0, .int .i64 130]) hF (by kernel_rfl) (fun _ => by kernel_rfl) rfl fun a hF => ?_
                            exact ⟨bb40, AA41, cc41, ((hF.repl 8 (by kernel_rfl)).cast (by kernel_rfl)), (hM.cast (by kernel_rfl))⟩
                          · intro s0 s1 s2 s3 s4 s5 s6 s7 s8 hc hi hp a w hS
                            obtain rfl : s5 = false := hi
                            obtain rfl : s4 = true := hp 4 (by kernel_rfl)
                            obtain ⟨bb40, AA41, cc41, hF, hM⟩ := hS
                            refine eP 60 (v0 := .int .i64 0) (v := .int .i64 0) hF (by kernel_rfl) (fun _ => by kernel_rfl) rfl fun a hF => ?_
                            exact ⟨bb40, AA41, cc41, ((hF.repl 13 (by kernel_rfl)).cast (by kernel_rfl)), (hM.cast (by kernel_rfl))⟩
                          · intro s0 s1 s2 s3 s4 s5 s6 s7 s8 hc hi hp a w hS
                            obtain rfl : s6 = false := hi
                            obtain rfl : s4 = true := hp 4 (by kernel_rfl)
                            obtain ⟨bb40, AA41, cc41, hF, hM⟩ := hS
                            refine eP 61 (v0 := .int .i64 130) (v := .int .i64 130) hF (by kernel_rfl) (fun _ => by kernel_rfl) rfl fun a hF => ?_
                            exact ⟨bb40, AA41, cc41, ((hF.repl 14 (by kernel_rfl)).cast (by kernel_rfl)), (hM.cast (by kernel_rfl))⟩
                          · intro s0 s1 s2 s3 s4 s5 s6 s7 s8 hc hi hp a w hS
                            obtain rfl : s7 = false := hi
                            obtain rfl : s5 = true := hp 5 (by kernel_rfl)
                            obtain ⟨bb40, AA41, cc41, hF, hM⟩ := hS
                            refine eP 6 (v0 := .int .i64 0) (v := .int .i64 0) hF (by kernel_rfl) (fun _ => by kernel_rfl) rfl fun a hF => ?_
                            exact ⟨bb40, AA41, cc41, ((hF.repl 4 (by kernel_rfl)).cast (by kernel_rfl)), (hM.cast (by kernel_rfl))⟩
                          · intro s0 s1 s2 s3 s4 s5 s6 s7 s8 hc hi hp a w hS
                            obtain rfl : s8 = false := hi
                            obtain rfl : s6 = true := hp 6 (by kernel_rfl)
                            obtain ⟨bb40, AA41, cc41, hF, hM⟩ := hS
                            refine eP 7 (v0 := .int .i64 130) (v := .int .i64 130) hF (by kernel_rfl) (fun _ => by kernel_rfl) rfl fun a hF => ?_
                            exact ⟨bb40, AA41, cc41, ((hF.repl 5 (by kernel_rfl)).cast (by kernel_rfl)), (hM.cast (by kernel_rfl))⟩
                        · intro a w hS
                          obtain ⟨bb40, AA41, cc41, hF, hM⟩ := hS
                          replace hF : Fr 253 [(0, some (.bool false)), (1, some (.pointer (some ⟨bb1, 0, none⟩))), (3, some (.pointer (some ⟨bb37, 0, none⟩))), (5, some (.int .i64 130)), (6, some (.int .i64 0)), (7, some (.int .i64 130)), (44, some (.agg #[.int .i64 0, .int .i64 0, .int .i64 1, .int .i64 0, .int .i64 0, .int .i64 1, .int .i64 1048577, .int .i64 1, .int .i64 1, .int .i64 2097153, .int .i64 (-5), .int .i64 (-5)])), (45, some (.int .i64 5)), (55, some (.tuple #[.int .i64 0, .int .i64 130])), (56, some (.agg #[.int .i64 (-5), .int .i64 (-5)])), (57, some (.slice (some ⟨bb40, 0, none⟩) 2 2)), (58, some (.slice AA41 1 cc41)), (59, some (.tuple #[.int .i64 0, .int .i64 130])), (60, some (.int .i64 0)), (61, some (.int .i64 130))] a := hF.cast (by kernel_rfl)
                          replace hM : Mem w0.heap.size w0 [(1, some (.row bb1 23 #[.int .i64 1, .int .i64 1])), (37, some (.row bb37 23 #[.int .i64 (-5), .int .i64 (-5)])), (40, some (.row bb40 3 #[.int .i64 5, .int .i64 0])), (41, some (.own (.slice AA41 1 cc41) 30 2 1 (flat2 ([(5, 0)]))))] w := hM.cast (by kernel_rfl)
                          refine hK61 _ _ ?_
                          refine wp_seq_k fun K62 hK62 => ?_
                          refine wp_region_lit ?_
                          refine wl (eL 63 37 0 (v := .agg #[.int .i64 (-5), .int .i64 (-5)]) hF hM (by kernel_rfl) rfl rfl (by kernel_rfl) (by kernel_rfl) fun a w hF hM => ?_)
                          refine wl (eM 64 (v := .tuple #[.int .i64 0, .int .i64 130]) hF hM (by kernel_rfl) (Yld.to (yld_call (f := 13) (args := #[.agg #[.int .i64 (-5), .int .i64 (-5)], .int .i64 (-1)]) hF (by kernel_rfl) (fun _ => by kernel_rfl) (fun w hM => bWithin_w (-5) (-5) (-1) w)) (by kernel_rfl)) fun a w hF hM => ?_)
                          refine sB 5 [(62, .tuple #[.int .i64 0, .int .i64 130]), (65, .int .i64 0), (66, .int .i64 130), (8, .int .i64 0), (9, .int .i64 130)] hF (by kernel_rfl) fun a hF => ?_
                          refine wpList_nil ?_
                          refine hK62 _ _ ?_
                          refine wp_seq_k fun K63 hK63 => ?_
                          refine wp_region_lit ?_
                          refine wl (eL 68 1 0 (v := .agg #[.int .i64 1, .int .i64 1]) hF hM (by kernel_rfl) rfl rfl (by kernel_rfl) (by kernel_rfl) fun a w hF hM => ?_)
                          refine wl (eL 69 37 0 (v := .agg #[.int .i64 (-5), .int .i64 (-5)]) hF hM (by kernel_rfl) rfl rfl (by kernel_rfl) (by kernel_rfl) fun a w hF hM => ?_)
                          refine wl (eN 70 42 (t := 23) (fun b => .slice (some ⟨b, 0, none⟩) 2 2) #[.int .i64 1, .int .i64 1, .int .i64 (-5), .int .i64 (-5)] hF hM (by kernel_rfl) (fun _ => by kernel_rfl) fun bb42 a w hF hM => ?_)
                          refine wl (eM 71 (v := .tuple #[.agg #[.int .i64 0, .int .i64 0], .int .i64 130]) hF hM (by kernel_rfl) (Yld.to (yld_call (f := 11) (args := #[.slice (some ⟨bb42, 0, none⟩) 2 2]) hF (by kernel_rfl) (fun _ => by kernel_rfl) (fun w hM => bSum_w (some ⟨bb42, 0, none⟩) [(1, 1), (-5, -5)] _ w (hM.roRow (k := 42) rfl))) (by kernel_rfl)) fun a w hF hM => ?_)
                          refine sB 3 [(67, .tuple #[.agg #[.int .i64 0, .int .i64 0], .int .i64 130]), (72, .agg #[.int .i64 0, .int .i64 0]), (73, .int .i64 130)] hF (by kernel_rfl) fun a hF => ?_
                          refine wl (eN 10 43 (t := 23) (fun b => .pointer (some ⟨b, 0, none⟩)) #[.int .i64 0, .int .i64 0] hF hM (by kernel_rfl) (fun _ => by kernel_rfl) fun bb43 a w hF hM => ?_)
                          refine wl (sStore (i := 43) (off := 0) (cs' := #[.int .i64 0, .int .i64 0]) hF hM (by kernel_rfl) rfl rfl (by kernel_rfl) (by kernel_rfl) rfl (by kernel_rfl) fun w hM => ?_)
                          refine sB 1 [(11, .int .i64 130)] hF (by kernel_rfl) fun a hF => ?_
                          refine wpList_nil ?_
                          refine hK63 _ _ ?_
                          refine wp_seq_k fun K64 hK64 => ?_
                          refine wp_region_lit ?_
                          refine wl (eL 74 37 0 (v := .agg #[.int .i64 (-5), .int .i64 (-5)]) hF hM (by kernel_rfl) rfl rfl (by kernel_rfl) (by kernel_rfl) fun a w hF hM => ?_)
                          refine wl (eM 75 (v := .int .i64 130) hF hM (by kernel_rfl) (Yld.to (yld_call (f := 15) (args := #[.agg #[.int .i64 (-5), .int .i64 (-5)]]) hF (by kernel_rfl) (fun _ => by kernel_rfl) (fun w hM => bkCheck_w (-5) (-5) w)) (by kernel_rfl)) fun a w hF hM => ?_)
                          refine wl (eP 76 (v0 := .bool (!decide (130 = 130))) (v := .bool false) hF (by kernel_rfl) (fun _ => by kernel_rfl) (nT (by omega)) fun a hF => ?_)
                          refine sB 2 [(77, .bool false), (78, .int .i64 130)] hF (by kernel_rfl) fun a hF => ?_
                          refine wl (eP 79 (v0 := .bool (!decide (130 = 130))) (v := .bool false) hF (by kernel_rfl) (fun _ => by kernel_rfl) (nT (by omega)) fun a hF => ?_)
                          refine sB 3 [(80, .bool false), (81, .bool false), (82, .int .i64 130)] hF (by kernel_rfl) fun a hF => ?_
                          refine wl (eP 83 (v0 := .bool (!decide (130 = 130))) (v := .bool false) hF (by kernel_rfl) (fun _ => by kernel_rfl) (nT (by omega)) fun a hF => ?_)
                          refine sB 3 [(84, .bool false), (85, .bool false), (86, .int .i64 130)] hF (by kernel_rfl) fun a hF => ?_
                          refine wl (eP 87 (v0 := .bool (!decide (130 = 130))) (v := .bool false) hF (by kernel_rfl) (fun _ => by kernel_rfl) (nT (by omega)) fun a hF => ?_)
                          refine sB 3 [(88, .bool false), (89, .bool false), (90, .int .i64 130)] hF (by kernel_rfl) fun a hF => ?_
                          refine wl (eP 91 (v0 := .bool (!decide (130 = 130))) (v := .bool false) hF (by kernel_rfl) (fun _ => by kernel_rfl) (nT (by omega)) fun a hF => ?_)
                          refine sB 1 [(92, .bool false)] hF (by kernel_rfl) fun a hF => ?_
                          refine wpList_nil ?_
                          refine hK64 _ _ ?_
                          refine cF hF (by kernel_rfl) (by kernel_rfl) ?_
                          refine wp_skip ?_
                          refine hK58 _ _ ?_
                          refine wp_region_lit ?_
                          refine wl (eP 93 (v0 := .int .i64 (IntKind.i64.wrap (5 + 1))) (v := .int .i64 6) hF (by kernel_rfl) (fun _ => by kernel_rfl) (vi (by decide)) fun a hF => ?_)
                          refine sB 1 [(45, .int .i64 6)] hF (by kernel_rfl) fun a hF => ?_
                          refine wpList_nil ?_
                          refine hK55 _ _ ?_
                          refine rounds_k fun K65 hK65 => ?_
                          refine wp_seq_k fun K66 hK66 => ?_
                          refine wp_region_lit ?_
                          refine wl (eP 46 (v0 := .bool (decide (6 < 6))) (v := .bool false) hF (by kernel_rfl) (fun _ => by kernel_rfl) (bF (by omega)) fun a hF => ?_)
                          refine wpList_nil ?_
                          refine hK66 _ _ ?_
                          refine wp_seq_k fun K67 hK67 => ?_
                          refine cF hF (by kernel_rfl) (by kernel_rfl) ?_
                          refine wp_exit ?_
                          refine hK3 _ _ ?_
                          refine wp_seq_k fun K68 hK68 => ?_
                          refine wp_seq_k fun K69 hK69 => ?_
                          refine rF (by kernel_rfl) (by kernel_rfl) (fun S a w => ∃ bb44 : Nat, ∃ AA45 : Option Addr, ∃ cc45 : Nat, ∃ bb46 : Nat, ∃ AA47 : Option Addr, ∃ cc47 : Nat, ∃ bb48 : Nat, ∃ AA49 : Option Addr, ∃ cc49 : Nat, ∃ bb50 : Nat, ∃ AA51 : Option Addr, ∃ cc51 : Nat, ∃ bb52 : Nat, ∃ AA53 : Option Addr, ∃ cc53 : Nat, ∃ bb54 : Nat, Fr 253 [(0, some (.bool false)), (1, some (.pointer (some ⟨bb1, 0, none⟩))), (94, (cond (S.getD 0 false) (some (.slice (some ⟨bb44, 0, none⟩) 2 2)) none)), (95, (cond (S.getD 1 false) (some (.slice AA45 1 cc45)) none)), (96, (cond (S.getD 2 false) (some (.slice (some ⟨bb46, 0, none⟩) 2 2)) none)), (97, (cond (S.getD 3 false) (some (.slice AA47 1 cc47)) none)), (98, (cond (S.getD 4 false) (some (.slice (some ⟨bb48, 0, none⟩) 4 4)) none)), (99, (cond (S.getD 5 false) (some (.slice AA49 2 cc49)) none)), (100, (cond (S.getD 6 false) (some (.slice (some ⟨bb50, 0, none⟩) 2 2)) none)), (101, (cond (S.getD 7 false) (some (.slice AA51 1 cc51)) none)), (102, (cond (S.getD 8 false) (some (.slice (some ⟨bb52, 0, none⟩) 2 2)) none)), (103, (cond (S.getD 9 false) (some (.slice AA53 1 cc53)) none)), (104, (cond (S.getD 10 false) (some (.slice (some ⟨bb54, 0, none⟩) 201 201)) none)), (105, (cond (S.getD 11 false) (some (.agg #[.slice AA45 1 cc45, .slice AA47 1 cc47, .slice AA49 2 cc49, .slice AA51 1 cc51, .slice AA53 1 cc53, .slice (some ⟨bb54, 0, none⟩) 201 201])) none)), (106, (cond (S.getD 12 false) (some (.int .i64 0)) none))] a ∧ Mem w0.heap.size w0 [(1, some (.row bb1 23 #[.int .i64 1, .int .i64 1])), (44, (cond (S.getD 0 false) (some (.row bb44 3 #[.int .i64 5, .int .i64 0])) none)), (45, (cond (S.getD 1 false) (some (.own (.slice AA45 1 cc45) 30 2 1 (flat2 ([(5, 0)])))) none)), (46, (cond (S.getD 2 false) (some (.row bb46 3 #[.int .i64 (-1), .int .i64 1])) none)), (47, (cond (S.getD 3 false) (some (.own (.slice AA47 1 cc47) 30 2 1 (flat2 ([(-1, 1)])))) none)), (48, (cond (S.getD 4 false) (some (.row bb48 3 #[.int .i64 5, .int .i64 1, .int .i64 4, .int .i64 1])) none)), (49, (cond (S.getD 5 false) (some (.own (.slice AA49 2 cc49) 30 2 2 (flat2 ([(5, 1), (4, 1)])))) none)), (50, (cond (S.getD 6 false) (some (.row bb50 3 #[.int .i64 1099511627777, .int .i64 1])) none)), (51, (cond (S.getD 7 false) (some (.own (.slice AA51 1 cc51) 30 2 1 (flat2 ([(1099511627777, 1)])))) none)), (52, (cond (S.getD 8 false) (some (.row bb52 3 #[.int .i64 0, .int .i64 1048577])) none)), (53, (cond (S.getD 9 false) (some (.own (.slice AA53 1 cc53) 30 2 1 (flat2 ([(0, 1048577)])))) none)), (54, (cond (S.getD 10 false) (some (.own (.slice (some ⟨bb54, 0, none⟩) 201 201) 30 2 201 (flat2 (List.replicate 201 (0, 0))))) none))] w) ?_ ?_ ?_
                          · exact ⟨0, none, 0, 0, none, 0, 0, none, 0, 0, none, 0, 0, none, 0, 0, ((((((((((((((((Fr.nil hF).co hF (i := 106) (by kernel_rfl)).co hF (i := 105) (by kernel_rfl)).co hF (i := 104) (by kernel_rfl)).co hF (i := 103) (by kernel_rfl)).co hF (i := 102) (by kernel_rfl)).co hF (i := 101) (by kernel_rfl)).co hF (i := 100) (by kernel_rfl)).co hF (i := 99) (by kernel_rfl)).co hF (i := 98) (by kernel_rfl)).co hF (i := 97) (by kernel_rfl)).co hF (i := 96) (by kernel_rfl)).co hF (i := 95) (by kernel_rfl)).co hF (i := 94) (by kernel_rfl)).co hF (i := 1) (by kernel_rfl)).co hF (i := 0) (by kernel_rfl)), hM.drew.sub ((((((((((((Sub.nil.co (k := 54) (by kernel_rfl)).co (k := 53) (by kernel_rfl)).co (k := 52) (by kernel_rfl)).co (k := 51) (by kernel_rfl)).co (k := 50) (by kernel_rfl)).co (k := 49) (by kernel_rfl)).co (k := 48) (by kernel_rfl)).co (k := 47) (by kernel_rfl)).co (k := 46) (by kernel_rfl)).co (k := 45) (by kernel_rfl)).co (k := 44) (by kernel_rfl)).co (k := 1) (by kernel_rfl))⟩
                          · refine stC ?_ (stC ?_ (stC ?_ (stC ?_ (stC ?_ (stC ?_ (stC ?_ (stC ?_ (stC ?_ (stC ?_ (stC ?_ (stC ?_ (stC ?_ (trivial)))))))))))))
                            · intro s0 s1 s2 s3 s4 s5 s6 s7 s8 s9 s10 s11 s12 hc hi hp a w hS
                              obtain rfl : s0 = false := hi
                              obtain ⟨bb44, AA45, cc45, bb46, AA47, cc47, bb48, AA49, cc49, bb50, AA51, cc51, bb52, AA53, cc53, bb54, hF, hM⟩ := hS
                              refine eN 94 44 (t := 3) (fun b => .slice (some ⟨b, 0, none⟩) 2 2) #[.int .i64 5, .int .i64 0] hF hM (by kernel_rfl) (fun _ => by kernel_rfl) fun bb44 a w hF hM => ?_
                              exact ⟨bb44, AA45, cc45, bb46, AA47, cc47, bb48, AA49, cc49, bb50, AA51, cc51, bb52, AA53, cc53, bb54, ((hF.repl 2 (by kernel_rfl)).cast (by kernel_rfl)), ((hM.repl 1 (by kernel_rfl)).cast (by kernel_rfl))⟩
                            · intro s0 s1 s2 s3 s4 s5 s6 s7 s8 s9 s10 s11 s12 hc hi hp a w hS
                              obtain rfl : s1 = false := hi
                              obtain rfl : s0 = true := hp 0 (by kernel_rfl)
                              obtain rfl : s11 = false := hc.f 11 1 (by kernel_rfl) rfl
                              obtain ⟨bb44, AA45, cc45, bb46, AA47, cc47, bb48, AA49, cc49, bb50, AA51, cc51, bb52, AA53, cc53, bb54, hF, hM⟩ := hS
                              refine sOwn 45 (f := 31) (args := #[.slice (some ⟨bb44, 0, none⟩) 2 2]) (mk := fun v => v) (e := 30) (size := 2) (m := 1) (xs := (flat2 ([(5, 0)]))) hF hM (by kernel_rfl) rfl (by decide) (by kernel_rfl) (fun _ => by kernel_rfl) (trace_w (some ⟨bb44, 0, none⟩) [5, 0] 2 w (hM.roRow (k := 44) rfl) (by decide)) fun AA45 cc45 a w hF hM => ?_
                              exact ⟨bb44, AA45, cc45, bb46, AA47, cc47, bb48, AA49, cc49, bb50, AA51, cc51, bb52, AA53, cc53, bb54, ((hF.repl 3 (by kernel_rfl)).cast (by kernel_rfl)), ((hM.repl 2 (by kernel_rfl)).cast (by kernel_rfl))⟩
                            · intro s0 s1 s2 s3 s4 s5 s6 s7 s8 s9 s10 s11 s12 hc hi hp a w hS
                              obtain rfl : s2 = false := hi
                              obtain ⟨bb44, AA45, cc45, bb46, AA47, cc47, bb48, AA49, cc49, bb50, AA51, cc51, bb52, AA53, cc53, bb54, hF, hM⟩ := hS
                              refine eN 96 46 (t := 3) (fun b => .slice (some ⟨b, 0, none⟩) 2 2) #[.int .i64 (-1), .int .i64 1] hF hM (by kernel_rfl) (fun _ => by kernel_rfl) fun bb46 a w hF hM => ?_
                              exact ⟨bb44, AA45, cc45, bb46, AA47, cc47, bb48, AA49, cc49, bb50, AA51, cc51, bb52, AA53, cc53, bb54, ((hF.repl 4 (by kernel_rfl)).cast (by kernel_rfl)), ((hM.repl 3 (by kernel_rfl)).cast (by kernel_rfl))⟩
                            · intro s0 s1 s2 s3 s4 s5 s6 s7 s8 s9 s10 s11 s12 hc hi hp a w hS
                              obtain rfl : s3 = false := hi
                              obtain rfl : s2 = true := hp 2 (by kernel_rfl)
                              obtain rfl : s11 = false := hc.f 11 3 (by kernel_rfl) rfl
                              obtain ⟨bb44, AA45, cc45, bb46, AA47, cc47, bb48, AA49, cc49, bb50, AA51, cc51, bb52, AA53, cc53, bb54, hF, hM⟩ := hS
                              refine sOwn 47 (f := 31) (args := #[.slice (some ⟨bb46, 0, none⟩) 2 2]) (mk := fun v => v) (e := 30) (size := 2) (m := 1) (xs := (flat2 ([(-1, 1)]))) hF hM (by kernel_rfl) rfl (by decide) (by kernel_rfl) (fun _ => by kernel_rfl) (trace_w (some ⟨bb46, 0, none⟩) [-1, 1] 2 w (hM.roRow (k := 46) rfl) (by decide)) fun AA47 cc47 a w hF hM => ?_
                              exact ⟨bb44, AA45, cc45, bb46, AA47, cc47, bb48, AA49, cc49, bb50, AA51, cc51, bb52, AA53, cc53, bb54, ((hF.repl 5 (by kernel_rfl)).cast (by kernel_rfl)), ((hM.repl 4 (by kernel_rfl)).cast (by kernel_rfl))⟩
                            · intro s0 s1 s2 s3 s4 s5 s6 s7 s8 s9 s10 s11 s12 hc hi hp a w hS
                              obtain rfl : s4 = false := hi
                              obtain ⟨bb44, AA45, cc45, bb46, AA47, cc47, bb48, AA49, cc49, bb50, AA51, cc51, bb52, AA53, cc53, bb54, hF, hM⟩ := hS
                              refine eN 98 48 (t := 3) (fun b => .slice (some ⟨b, 0, none⟩) 4 4) #[.int .i64 5, .int .i64 1, .int .i64 4, .int .i64 1] hF hM (by kernel_rfl) (fun _ => by kernel_rfl) fun bb48 a w hF hM => ?_
                              exact ⟨bb44, AA45, cc45, bb46, AA47, cc47, bb48, AA49, cc49, bb50, AA51, cc51, bb52, AA53, cc53, bb54, ((hF.repl 6 (by kernel_rfl)).cast (by kernel_rfl)), ((hM.repl 5 (by kernel_rfl)).cast (by kernel_rfl))⟩
                            · intro s0 s1 s2 s3 s4 s5 s6 s7 s8 s9 s10 s11 s12 hc hi hp a w hS
                              obtain rfl : s5 = false := hi
                              obtain rfl : s4 = true := hp 4 (by kernel_rfl)
                              obtain rfl : s11 = false := hc.f 11 5 (by kernel_rfl) rfl
                              obtain ⟨bb44, AA45, cc45, bb46, AA47, cc47, bb48, AA49, cc49, bb50, AA51, cc51, bb52, AA53, cc53, bb54, hF, hM⟩ := hS
                              refine sOwn 49 (f := 31) (args := #[.slice (some ⟨bb48, 0, none⟩) 4 4]) (mk := fun v => v) (e := 30) (size := 2) (m := 2) (xs := (flat2 ([(5, 1), (4, 1)]))) hF hM (by kernel_rfl) rfl (by decide) (by kernel_rfl) (fun _ => by kernel_rfl) (trace_w (some ⟨bb48, 0, none⟩) [5, 1, 4, 1] 4 w (hM.roRow (k := 48) rfl) (by decide)) fun AA49 cc49 a w hF hM => ?_
                              exact ⟨bb44, AA45, cc45, bb46, AA47, cc47, bb48, AA49, cc49, bb50, AA51, cc51, bb52, AA53, cc53, bb54, ((hF.repl 7 (by kernel_rfl)).cast (by kernel_rfl)), ((hM.repl 6 (by kernel_rfl)).cast (by kernel_rfl))⟩
                            · intro s0 s1 s2 s3 s4 s5 s6 s7 s8 s9 s10 s11 s12 hc hi hp a w hS
                              obtain rfl : s6 = false := hi
                              obtain ⟨bb44, AA45, cc45, bb46, AA47, cc47, bb48, AA49, cc49, bb50, AA51, cc51, bb52, AA53, cc53, bb54, hF, hM⟩ := hS
                              refine eN 100 50 (t := 3) (fun b => .slice (some ⟨b, 0, none⟩) 2 2) #[.int .i64 1099511627777, .int .i64 1] hF hM (by kernel_rfl) (fun _ => by kernel_rfl) fun bb50 a w hF hM => ?_
                              exact ⟨bb44, AA45, cc45, bb46, AA47, cc47, bb48, AA49, cc49, bb50, AA51, cc51, bb52, AA53, cc53, bb54, ((hF.repl 8 (by kernel_rfl)).cast (by kernel_rfl)), ((hM.repl 7 (by kernel_rfl)).cast (by kernel_rfl))⟩
                            · intro s0 s1 s2 s3 s4 s5 s6 s7 s8 s9 s10 s11 s12 hc hi hp a w hS
                              obtain rfl : s7 = false := hi
                              obtain rfl : s6 = true := hp 6 (by kernel_rfl)
                              obtain rfl : s11 = false := hc.f 11 7 (by kernel_rfl) rfl
                              obtain ⟨bb44, AA45, cc45, bb46, AA47, cc47, bb48, AA49, cc49, bb50, AA51, cc51, bb52, AA53, cc53, bb54, hF, hM⟩ := hS
                              refine sOwn 51 (f := 31) (args := #[.slice (some ⟨bb50, 0, none⟩) 2 2]) (mk := fun v => v) (e := 30) (size := 2) (m := 1) (xs := (flat2 ([(1099511627777, 1)]))) hF hM (by kernel_rfl) rfl (by decide) (by kernel_rfl) (fun _ => by kernel_rfl) (trace_w (some ⟨bb50, 0, none⟩) [1099511627777, 1] 2 w (hM.roRow (k := 50) rfl) (by decide)) fun AA51 cc51 a w hF hM => ?_
                              exact ⟨bb44, AA45, cc45, bb46, AA47, cc47, bb48, AA49, cc49, bb50, AA51, cc51, bb52, AA53, cc53, bb54, ((hF.repl 9 (by kernel_rfl)).cast (by kernel_rfl)), ((hM.repl 8 (by kernel_rfl)).cast (by kernel_rfl))⟩
                            · intro s0 s1 s2 s3 s4 s5 s6 s7 s8 s9 s10 s11 s12 hc hi hp a w hS
                              obtain rfl : s8 = false := hi
                              obtain ⟨bb44, AA45, cc45, bb46, AA47, cc47, bb48, AA49, cc49, bb50, AA51, cc51, bb52, AA53, cc53, bb54, hF, hM⟩ := hS
                              refine eN 102 52 (t := 3) (fun b => .slice (some ⟨b, 0, none⟩) 2 2) #[.int .i64 0, .int .i64 1048577] hF hM (by kernel_rfl) (fun _ => by kernel_rfl) fun bb52 a w hF hM => ?_
                              exact ⟨bb44, AA45, cc45, bb46, AA47, cc47, bb48, AA49, cc49, bb50, AA51, cc51, bb52, AA53, cc53, bb54, ((hF.repl 10 (by kernel_rfl)).cast (by kernel_rfl)), ((hM.repl 9 (by kernel_rfl)).cast (by kernel_rfl))⟩
                            · intro s0 s1 s2 s3 s4 s5 s6 s7 s8 s9 s10 s11 s12 hc hi hp a w hS
                              obtain rfl : s9 = false := hi
                              obtain rfl : s8 = true := hp 8 (by kernel_rfl)
                              obtain rfl : s11 = false := hc.f 11 9 (by kernel_rfl) rfl
                              obtain ⟨bb44, AA45, cc45, bb46, AA47, cc47, bb48, AA49, cc49, bb50, AA51, cc51, bb52, AA53, cc53, bb54, hF, hM⟩ := hS
                              refine sOwn 53 (f := 31) (args := #[.slice (some ⟨bb52, 0, none⟩) 2 2]) (mk := fun v => v) (e := 30) (size := 2) (m := 1) (xs := (flat2 ([(0, 1048577)]))) hF hM (by kernel_rfl) rfl (by decide) (by kernel_rfl) (fun _ => by kernel_rfl) (trace_w (some ⟨bb52, 0, none⟩) [0, 1048577] 2 w (hM.roRow (k := 52) rfl) (by decide)) fun AA53 cc53 a w hF hM => ?_
                              exact ⟨bb44, AA45, cc45, bb46, AA47, cc47, bb48, AA49, cc49, bb50, AA51, cc51, bb52, AA53, cc53, bb54, ((hF.repl 11 (by kernel_rfl)).cast (by kernel_rfl)), ((hM.repl 10 (by kernel_rfl)).cast (by kernel_rfl))⟩
                            · intro s0 s1 s2 s3 s4 s5 s6 s7 s8 s9 s10 s11 s12 hc hi hp a w hS
                              obtain rfl : s10 = false := hi
                              obtain rfl : s11 = false := hc.f 11 10 (by kernel_rfl) rfl
                              obtain ⟨bb44, AA45, cc45, bb46, AA47, cc47, bb48, AA49, cc49, bb50, AA51, cc51, bb52, AA53, cc53, bb54, hF, hM⟩ := hS
                              refine sMake 104 54 201 (e := 30) (size := 2) (bytes := 16) (z := .agg #[.int .i64 0, .int .i64 0]) (flat2 (List.replicate 201 (0, 0))) hF hM (by kernel_rfl) rfl (by kernel_rfl) (by kernel_rfl) (by kernel_rfl) (by kernel_rfl) (by omega) (by unfold maxLen; omega) fun bb54 a w hF hM => ?_
                              exact ⟨bb44, AA45, cc45, bb46, AA47, cc47, bb48, AA49, cc49, bb50, AA51, cc51, bb52, AA53, cc53, bb54, ((hF.repl 12 (by kernel_rfl)).cast (by kernel_rfl)), ((hM.repl 11 (by kernel_rfl)).cast (by kernel_rfl))⟩
                            · intro s0 s1 s2 s3 s4 s5 s6 s7 s8 s9 s10 s11 s12 hc hi hp a w hS
                              obtain rfl : s11 = false := hi
                              obtain rfl : s10 = true := hp 10 (by kernel_rfl)
                              obtain rfl : s9 = true := hp 9 (by kernel_rfl)
                              obtain rfl : s7 = true := hp 7 (by kernel_rfl)
                              obtain rfl : s5 = true := hp 5 (by kernel_rfl)
                              obtain rfl : s3 = true := hp 3 (by kernel_rfl)
                              obtain rfl : s1 = true := hp 1 (by kernel_rfl)
                              obtain ⟨bb44, AA45, cc45, bb46, AA47, cc47, bb48, AA49, cc49, bb50, AA51, cc51, bb52, AA53, cc53, bb54, hF, hM⟩ := hS
                              refine eP 105 (v0 := .agg #[.slice AA45 1 cc45, .slice AA47 1 cc47, .slice AA49 2 cc49, .slice AA51 1 cc51, .slice AA53 1 cc53, .slice (some ⟨bb54, 0, none⟩) 201 201]) (v := .agg #[.slice AA45 1 cc45, .slice AA47 1 cc47, .slice AA49 2 cc49, .slice AA51 1 cc51, .slice AA53 1 cc53, .slice (some ⟨bb54, 0, none⟩) 201 201]) hF (by kernel_rfl) (fun _ => by kernel_rfl) rfl fun a hF => ?_
                              exact ⟨bb44, AA45, cc45, bb46, AA47, cc47, bb48, AA49, cc49, bb50, AA51, cc51, bb52, AA53, cc53, bb54, ((hF.repl 13 (by kernel_rfl)).cast (by kernel_rfl)), (hM.cast (by kernel_rfl))⟩
                            · intro s0 s1 s2 s3 s4 s5 s6 s7 s8 s9 s10 s11 s12 hc hi hp a w hS
                              obtain rfl : s12 = false := hi
                              obtain ⟨bb44, AA45, cc45, bb46, AA47, cc47, bb48, AA49, cc49, bb50, AA51, cc51, bb52, AA53, cc53, bb54, hF, hM⟩ := hS
                              refine eP 106 (v0 := .int .i64 0) (v := .int .i64 0) hF (by kernel_rfl) (fun _ => by kernel_rfl) rfl fun a hF => ?_
                              exact ⟨bb44, AA45, cc45, bb46, AA47, cc47, bb48, AA49, cc49, bb50, AA51, cc51, bb52, AA53, cc53, bb54, ((hF.repl 14 (by kernel_rfl)).cast (by kernel_rfl)), (hM.cast (by kernel_rfl))⟩
                          · intro a w hS
                            obtain ⟨bb44, AA45, cc45, bb46, AA47, cc47, bb48, AA49, cc49, bb50, AA51, cc51, bb52, AA53, cc53, bb54, hF, hM⟩ := hS
                            replace hF : Fr 253 [(0, some (.bool false)), (1, some (.pointer (some ⟨bb1, 0, none⟩))), (94, some (.slice (some ⟨bb44, 0, none⟩) 2 2)), (95, some (.slice AA45 1 cc45)), (96, some (.slice (some ⟨bb46, 0, none⟩) 2 2)), (97, some (.slice AA47 1 cc47)), (98, some (.slice (some ⟨bb48, 0, none⟩) 4 4)), (99, some (.slice AA49 2 cc49)), (100, some (.slice (some ⟨bb50, 0, none⟩) 2 2)), (101, some (.slice AA51 1 cc51)), (102, some (.slice (some ⟨bb52, 0, none⟩) 2 2)), (103, some (.slice AA53 1 cc53)), (104, some (.slice (some ⟨bb54, 0, none⟩) 201 201)), (105, some (.agg #[.slice AA45 1 cc45, .slice AA47 1 cc47, .slice AA49 2 cc49, .slice AA51 1 cc51, .slice AA53 1 cc53, .slice (some ⟨bb54, 0, none⟩) 201 201])), (106, some (.int .i64 0))] a := hF.cast (by kernel_rfl)
                            replace hM : Mem w0.heap.size w0 [(1, some (.row bb1 23 #[.int .i64 1, .int .i64 1])), (44, some (.row bb44 3 #[.int .i64 5, .int .i64 0])), (45, some (.own (.slice AA45 1 cc45) 30 2 1 (flat2 ([(5, 0)])))), (46, some (.row bb46 3 #[.int .i64 (-1), .int .i64 1])), (47, some (.own (.slice AA47 1 cc47) 30 2 1 (flat2 ([(-1, 1)])))), (48, some (.row bb48 3 #[.int .i64 5, .int .i64 1, .int .i64 4, .int .i64 1])), (49, some (.own (.slice AA49 2 cc49) 30 2 2 (flat2 ([(5, 1), (4, 1)])))), (50, some (.row bb50 3 #[.int .i64 1099511627777, .int .i64 1])), (51, some (.own (.slice AA51 1 cc51) 30 2 1 (flat2 ([(1099511627777, 1)])))), (52, some (.row bb52 3 #[.int .i64 0, .int .i64 1048577])), (53, some (.own (.slice AA53 1 cc53) 30 2 1 (flat2 ([(0, 1048577)])))), (54, some (.own (.slice (some ⟨bb54, 0, none⟩) 201 201) 30 2 201 (flat2 (List.replicate 201 (0, 0)))))] w := hM.cast (by kernel_rfl)
                            refine hK69 _ _ ?_
                            refine wp_block ?_
                            refine wp_loop_rounds 7 ?_
                            refine rounds_k fun K70 hK70 => ?_
                            refine wp_seq_k fun K71 hK71 => ?_
                            refine wp_region_lit ?_
                            refine wl (eP 107 (v0 := .bool (decide (0 < 6))) (v := .bool true) hF (by kernel_rfl) (fun _ => by kernel_rfl) (bT (by omega)) fun a hF => ?_)
                            refine wpList_nil ?_
                            refine hK71 _ _ ?_
                            refine wp_seq_k fun K72 hK72 => ?_
                            refine cT hF (by kernel_rfl) (by kernel_rfl) ?_
                            refine wp_skip ?_
                            refine hK72 _ _ ?_
                            refine wp_seq_k fun K73 hK73 => ?_
                            refine wp_block ?_
                            refine wp_seq_k fun K74 hK74 => ?_
                            refine wp_region_lit ?_
                            refine sB 2 [(108, .slice AA45 1 cc45), (13, .slice AA45 1 cc45)] hF (by kernel_rfl) fun a hF => ?_
                            refine wpList_nil ?_
                            refine hK74 _ _ ?_
                            refine wp_seq_k fun K75 hK75 => ?_
                            refine wp_region_lit ?_
                            refine wl (eL 110 1 0 (v := .agg #[.int .i64 1, .int .i64 1]) hF hM (by kernel_rfl) rfl rfl (by kernel_rfl) (by kernel_rfl) fun a w hF hM => ?_)
                            refine sB 1 [(111, .slice AA45 1 cc45)] hF (by kernel_rfl) fun a hF => ?_
                            refine wl (eM 112 (v := .tuple #[.bool false, .int .i64 131]) hF hM (by kernel_rfl) (Yld.to (yld_call (f := 23) (args := #[.agg #[.int .i64 1, .int .i64 1], .slice AA45 1 cc45]) hF (by kernel_rfl) (fun _ => by kernel_rfl) (fun w hM => conforms_w 1 1 AA45 ([(5, 0)]) _ w (ro_of_own (hM.ok 45 _ rfl)))) (by kernel_rfl)) fun a w hF hM => ?_)
                            refine sB 5 [(109, .tuple #[.bool false, .int .i64 131]), (113, .bool false), (114, .int .i64 131), (14, .bool false), (15, .int .i64 131)] hF (by kernel_rfl) fun a hF => ?_
                            refine wpList_nil ?_
                            refine hK75 _ _ ?_
                            refine wp_seq_k fun K76 hK76 => ?_
                            refine wp_region_lit ?_
                            refine sB 1 [(116, .slice AA45 1 cc45)] hF (by kernel_rfl) fun a hF => ?_
                            refine wl (eM 117 (v := .tuple #[.int .i64 0, .int .i64 131]) hF hM (by kernel_rfl) (Yld.to (yld_call (f := 27) (args := #[.int .i64 1, .slice AA45 1 cc45]) hF (by kernel_rfl) (fun _ => by kernel_rfl) (fun w hM => bLeast_w 1 AA45 ([(5, 0)]) _ w (ro_of_own (hM.ok 45 _ rfl)))) (by kernel_rfl)) fun a w hF hM => ?_)
                            refine sB 5 [(115, .tuple #[.int .i64 0, .int .i64 131]), (118, .int .i64 0), (119, .int .i64 131), (16, .int .i64 0), (17, .int .i64 131)] hF (by kernel_rfl) fun a hF => ?_
                            refine wpList_nil ?_
                            refine hK76 _ _ ?_
                            refine wp_seq_k fun K77 hK77 => ?_
                            refine wp_region_lit ?_
                            refine sB 1 [(121, .slice AA45 1 cc45)] hF (by kernel_rfl) fun a hF => ?_
                            refine wl (eM 122 (v := .tuple #[.int .i64 0, .int .i64 2]) hF hM (by kernel_rfl) (Yld.to (yld_call (f := 27) (args := #[.int .i64 0, .slice AA45 1 cc45]) hF (by kernel_rfl) (fun _ => by kernel_rfl) (fun w hM => bLeast_w 0 AA45 ([(5, 0)]) _ w (ro_of_own (hM.ok 45 _ rfl)))) (by kernel_rfl)) fun a w hF hM => ?_)
                            refine sB 5 [(120, .tuple #[.int .i64 0, .int .i64 2]), (123, .int .i64 0), (124, .int .i64 2), (18, .int .i64 0), (19, .int .i64 2)] hF (by kernel_rfl) fun a hF => ?_
                            refine wpList_nil ?_
                            refine hK77 _ _ ?_
                            refine wp_seq_k fun K78 hK78 => ?_
                            refine wp_region_lit ?_
                            refine sB 1 [(125, .slice AA45 1 cc45)] hF (by kernel_rfl) fun a hF => ?_
                            refine wl (eM 126 (v := .int .i64 131) hF hM (by kernel_rfl) (Yld.to (yld_call (f := 18) (args := #[.slice AA45 1 cc45]) hF (by kernel_rfl) (fun _ => by kernel_rfl) (fun w hM => checkTrace_w AA45 ([(5, 0)]) _ w (ro_of_own (hM.ok 45 _ rfl)))) (by kernel_rfl)) fun a w hF hM => ?_)
                            refine wl (eP 127 (v0 := .bool (!decide (131 = 131))) (v := .bool false) hF (by kernel_rfl) (fun _ => by kernel_rfl) (nT (by omega)) fun a hF => ?_)
                            refine sB 2 [(128, .bool false), (129, .int .i64 131)] hF (by kernel_rfl) fun a hF => ?_
                            refine wl (eP 130 (v0 := .bool (!decide (131 = 131))) (v := .bool false) hF (by kernel_rfl) (fun _ => by kernel_rfl) (nT (by omega)) fun a hF => ?_)
                            refine sB 3 [(131, .bool false), (132, .bool false), (133, .int .i64 131)] hF (by kernel_rfl) fun a hF => ?_
                            refine wl (eP 134 (v0 := .bool (!decide (131 = 131))) (v := .bool false) hF (by kernel_rfl) (fun _ => by kernel_rfl) (nT (by omega)) fun a hF => ?_)
                            refine sB 3 [(135, .bool false), (136, .bool false), (137, .int .i64 2)] hF (by kernel_rfl) fun a hF => ?_
                            refine wl (eP 138 (v0 := .bool (!decide (2 = 2))) (v := .bool false) hF (by kernel_rfl) (fun _ => by kernel_rfl) (nT (by omega)) fun a hF => ?_)
                            refine sB 1 [(139, .bool false)] hF (by kernel_rfl) fun a hF => ?_
                            refine wpList_nil ?_
                            refine hK78 _ _ ?_
                            refine cF hF (by kernel_rfl) (by kernel_rfl) ?_
                            refine wp_skip ?_
                            refine hK73 _ _ ?_
                            refine wp_region_lit ?_
                            refine wl (eP 140 (v0 := .int .i64 (IntKind.i64.wrap (0 + 1))) (v := .int .i64 1) hF (by kernel_rfl) (fun _ => by kernel_rfl) (vi (by decide)) fun a hF => ?_)
                            refine sB 1 [(106, .int .i64 1)] hF (by kernel_rfl) fun a hF => ?_
                            refine wpList_nil ?_
                            refine hK70 _ _ ?_
                            refine rounds_k fun K79 hK79 => ?_
                            refine wp_seq_k fun K80 hK80 => ?_
                            refine wp_region_lit ?_
                            refine wl (eP 107 (v0 := .bool (decide (1 < 6))) (v := .bool true) hF (by kernel_rfl) (fun _ => by kernel_rfl) (bT (by omega)) fun a hF => ?_)
                            refine wpList_nil ?_
                            refine hK80 _ _ ?_
                            refine wp_seq_k fun K81 hK81 => ?_
                            refine cT hF (by kernel_rfl) (by kernel_rfl) ?_
                            refine wp_skip ?_
                            refine hK81 _ _ ?_
                            refine wp_seq_k fun K82 hK82 => ?_
                            refine wp_block ?_
                            refine wp_seq_k fun K83 hK83 => ?_
                            refine wp_region_lit ?_
                            refine sB 2 [(108, .slice AA47 1 cc47), (13, .slice AA47 1 cc47)] hF (by kernel_rfl) fun a hF => ?_
                            refine wpList_nil ?_
                            refine hK83 _ _ ?_
                            refine wp_seq_k fun K84 hK84 => ?_
                            refine wp_region_lit ?_
                            refine wl (eL 110 1 0 (v := .agg #[.int .i64 1, .int .i64 1]) hF hM (by kernel_rfl) rfl rfl (by kernel_rfl) (by kernel_rfl) fun a w hF hM => ?_)
                            refine sB 1 [(111, .slice AA47 1 cc47)] hF (by kernel_rfl) fun a hF => ?_
                            refine wl (eM 112 (v := .tuple #[.bool false, .int .i64 131]) hF hM (by kernel_rfl) (Yld.to (yld_call (f := 23) (args := #[.agg #[.int .i64 1, .int .i64 1], .slice AA47 1 cc47]) hF (by kernel_rfl) (fun _ => by kernel_rfl) (fun w hM => conforms_w 1 1 AA47 ([(-1, 1)]) _ w (ro_of_own (hM.ok 47 _ rfl)))) (by kernel_rfl)) fun a w hF hM => ?_)
                            refine sB 5 [(109, .tuple #[.bool false, .int .i64 131]), (113, .bool false), (114, .int .i64 131), (14, .bool false), (15, .int .i64 131)] hF (by kernel_rfl) fun a hF => ?_
                            refine wpList_nil ?_
                            refine hK84 _ _ ?_
                            refine wp_seq_k fun K85 hK85 => ?_
                            refine wp_region_lit ?_
                            refine sB 1 [(116, .slice AA47 1 cc47)] hF (by kernel_rfl) fun a hF => ?_
                            refine wl (eM 117 (v := .tuple #[.int .i64 0, .int .i64 131]) hF hM (by kernel_rfl) (Yld.to (yld_call (f := 27) (args := #[.int .i64 1, .slice AA47 1 cc47]) hF (by kernel_rfl) (fun _ => by kernel_rfl) (fun w hM => bLeast_w 1 AA47 ([(-1, 1)]) _ w (ro_of_own (hM.ok 47 _ rfl)))) (by kernel_rfl)) fun a w hF hM => ?_)
                            refine sB 5 [(115, .tuple #[.int .i64 0, .int .i64 131]), (118, .int .i64 0), (119, .int .i64 131), (16, .int .i64 0), (17, .int .i64 131)] hF (by kernel_rfl) fun a hF => ?_
                            refine wpList_nil ?_
                            refine hK85 _ _ ?_
                            refine wp_seq_k fun K86 hK86 => ?_
                            refine wp_region_lit ?_
                            refine sB 1 [(121, .slice AA47 1 cc47)] hF (by kernel_rfl) fun a hF => ?_
                            refine wl (eM 122 (v := .tuple #[.int .i64 0, .int .i64 2]) hF hM (by kernel_rfl) (Yld.to (yld_call (f := 27) (args := #[.int .i64 0, .slice AA47 1 cc47]) hF (by kernel_rfl) (fun _ => by kernel_rfl) (fun w hM => bLeast_w 0 AA47 ([(-1, 1)]) _ w (ro_of_own (hM.ok 47 _ rfl)))) (by kernel_rfl)) fun a w hF hM => ?_)
                            refine sB 5 [(120, .tuple #[.int .i64 0, .int .i64 2]), (123, .int .i64 0), (124, .int .i64 2), (18, .int .i64 0), (19, .int .i64 2)] hF (by kernel_rfl) fun a hF => ?_
                            refine wpList_nil ?_
                            refine hK86 _ _ ?_
                            refine wp_seq_k fun K87 hK87 => ?_
                            refine wp_region_lit ?_
                            refine sB 1 [(125, .slice AA47 1 cc47)] hF (by kernel_rfl) fun a hF => ?_
                            refine wl (eM 126 (v := .int .i64 131) hF hM (by kernel_rfl) (Yld.to (yld_call (f := 18) (args := #[.slice AA47 1 cc47]) hF (by kernel_rfl) (fun _ => by kernel_rfl) (fun w hM => checkTrace_w AA47 ([(-1, 1)]) _ w (ro_of_own (hM.ok 47 _ rfl)))) (by kernel_rfl)) fun a w hF hM => ?_)
                            refine wl (eP 127 (v0 := .bool (!decide (131 = 131))) (v := .bool false) hF (by kernel_rfl) (fun _ => by kernel_rfl) (nT (by omega)) fun a hF => ?_)
                            refine sB 2 [(128, .bool false), (129, .int .i64 131)] hF (by kernel_rfl) fun a hF => ?_
                            refine wl (eP 130 (v0 := .bool (!decide (131 = 131))) (v := .bool false) hF (by kernel_rfl) (fun _ => by kernel_rfl) (nT (by omega)) fun a hF => ?_)
                            refine sB 3 [(131, .bool false), (132, .bool false), (133, .int .i64 131)] hF (by kernel_rfl) fun a hF => ?_
                            refine wl (eP 134 (v0 := .bool (!decide (131 = 131))) (v := .bool false) hF (by kernel_rfl) (fun _ => by kernel_rfl) (nT (by omega)) fun a hF => ?_)
                            refine sB 3 [(135, .bool false), (136, .bool false), (137, .int .i64 2)] hF (by kernel_rfl) fun a hF => ?_
                            refine wl (eP 138 (v0 := .bool (!decide (2 = 2))) (v := .bool false) hF (by kernel_rfl) (fun _ => by kernel_rfl) (nT (by omega)) fun a hF => ?_)
                            refine sB 1 [(139, .bool false)] hF (by kernel_rfl) fun a hF => ?_
                            refine wpList_nil ?_
                            refine hK87 _ _ ?_
                            refine cF hF (by kernel_rfl) (by kernel_rfl) ?_
                            refine wp_skip ?_
                            refine hK82 _ _ ?_
                            refine wp_region_lit ?_
                            refine wl (eP 140 (v0 := .int .i64 (IntKind.i64.wrap (1 + 1))) (v := .int .i64 2) hF (by kernel_rfl) (fun _ => by kernel_rfl) (vi (by decide)) fun a hF => ?_)
                            refine sB 1 [(106, .int .i64 2)] hF (by kernel_rfl) fun a hF => ?_
                            refine wpList_nil ?_
                            refine hK79 _ _ ?_
                            refine rounds_k fun K88 hK88 => ?_
                            refine wp_seq_k fun K89 hK89 => ?_
                            refine wp_region_lit ?_
                            refine wl (eP 107 (v0 := .bool (decide (2 < 6))) (v := .bool true) hF (by kernel_rfl) (fun _ => by kernel_rfl) (bT (by omega)) fun a hF => ?_)
                            refine wpList_nil ?_
                            refine hK89 _ _ ?_
                            refine wp_seq_k fun K90 hK90 => ?_
                            refine cT hF (by kernel_rfl) (by kernel_rfl) ?_
                            refine wp_skip ?_
                            refine hK90 _ _ ?_
                            refine wp_seq_k fun K91 hK91 => ?_
                            refine wp_block ?_
                            refine wp_seq_k fun K92 hK92 => ?_
                            refine wp_region_lit ?_
                            refine sB 2 [(108, .slice AA49 2 cc49), (13, .slice AA49 2 cc49)] hF (by kernel_rfl) fun a hF => ?_
                            refine wpList_nil ?_
                            refine hK92 _ _ ?_
                            refine wp_seq_k fun K93 hK93 => ?_
                            refine wp_region_lit ?_
                            refine wl (eL 110 1 0 (v := .agg #[.int .i64 1, .int .i64 1]) hF hM (by kernel_rfl) rfl rfl (by kernel_rfl) (by kernel_rfl) fun a w hF hM => ?_)
                            refine sB 1 [(111, .slice AA49 2 cc49)] hF (by kernel_rfl) fun a hF => ?_
                            refine wl (eM 112 (v := .tuple #[.bool false, .int .i64 131]) hF hM (by kernel_rfl) (Yld.to (yld_call (f := 23) (args := #[.agg #[.int .i64 1, .int .i64 1], .slice AA49 2 cc49]) hF (by kernel_rfl) (fun _ => by kernel_rfl) (fun w hM => conforms_w 1 1 AA49 ([(5, 1), (4, 1)]) _ w (ro_of_own (hM.ok 49 _ rfl)))) (by kernel_rfl)) fun a w hF hM => ?_)
                            refine sB 5 [(109, .tuple #[.bool false, .int .i64 131]), (113, .bool false), (114, .int .i64 131), (14, .bool false), (15, .int .i64 131)] hF (by kernel_rfl) fun a hF => ?_
                            refine wpList_nil ?_
                            refine hK93 _ _ ?_
                            refine wp_seq_k fun K94 hK94 => ?_
                            refine wp_region_lit ?_
                            refine sB 1 [(116, .slice AA49 2 cc49)] hF (by kernel_rfl) fun a hF => ?_
                            refine wl (eM 117 (v := .tuple #[.int .i64 0, .int .i64 131]) hF hM (by kernel_rfl) (Yld.to (yld_call (f := 27) (args := #[.int .i64 1, .slice AA49 2 cc49]) hF (by kernel_rfl) (fun _ => by kernel_rfl) (fun w hM => bLeast_w 1 AA49 ([(5, 1), (4, 1)]) _ w (ro_of_own (hM.ok 49 _ rfl)))) (by kernel_rfl)) fun a w hF hM => ?_)
                            refine sB 5 [(115, .tuple #[.int .i64 0, .int .i64 131]), (118, .int .i64 0), (119, .int .i64 131), (16, .int .i64 0), (17, .int .i64 131)] hF (by kernel_rfl) fun a hF => ?_
                            refine wpList_nil ?_
                            refine hK94 _ _ ?_
                            refine wp_seq_k fun K95 hK95 => ?_
                            refine wp_region_lit ?_
                            refine sB 1 [(121, .slice AA49 2 cc49)] hF (by kernel_rfl) fun a hF => ?_
                            refine wl (eM 122 (v := .tuple #[.int .i64 0, .int .i64 2]) hF hM (by kernel_rfl) (Yld.to (yld_call (f := 27) (args := #[.int .i64 0, .slice AA49 2 cc49]) hF (by kernel_rfl) (fun _ => by kernel_rfl) (fun w hM => bLeast_w 0 AA49 ([(5, 1), (4, 1)]) _ w (ro_of_own (hM.ok 49 _ rfl)))) (by kernel_rfl)) fun a w hF hM => ?_)
                            refine sB 5 [(120, .tuple #[.int .i64 0, .int .i64 2]), (123, .int .i64 0), (124, .int .i64 2), (18, .int .i64 0), (19, .int .i64 2)] hF (by kernel_rfl) fun a hF => ?_
                            refine wpList_nil ?_
                            refine hK95 _ _ ?_
                            refine wp_seq_k fun K96 hK96 => ?_
                            refine wp_region_lit ?_
                            refine sB 1 [(125, .slice AA49 2 cc49)] hF (by kernel_rfl) fun a hF => ?_
                            refine wl (eM 126 (v := .int .i64 131) hF hM (by kernel_rfl) (Yld.to (yld_call (f := 18) (args := #[.slice AA49 2 cc49]) hF (by kernel_rfl) (fun _ => by kernel_rfl) (fun w hM => checkTrace_w AA49 ([(5, 1), (4, 1)]) _ w (ro_of_own (hM.ok 49 _ rfl)))) (by kernel_rfl)) fun a w hF hM => ?_)
                            refine wl (eP 127 (v0 := .bool (!decide (131 = 131))) (v := .bool false) hF (by kernel_rfl) (fun _ => by kernel_rfl) (nT (by omega)) fun a hF => ?_)
                            refine sB 2 [(128, .bool false), (129, .int .i64 131)] hF (by kernel_rfl) fun a hF => ?_
                            refine wl (eP 130 (v0 := .bool (!decide (131 = 131))) (v := .bool false) hF (by kernel_rfl) (fun _ => by kernel_rfl) (nT (by omega)) fun a hF => ?_)
                            refine sB 3 [(131, .bool false), (132, .bool false), (133, .int .i64 131)] hF (by kernel_rfl) fun a hF => ?_
                            refine wl (eP 134 (v0 := .bool (!decide (131 = 131))) (v := .bool false) hF (by kernel_rfl) (fun _ => by kernel_rfl) (nT (by omega)) fun a hF => ?_)
                            refine sB 3 [(135, .bool false), (136, .bool false), (137, .int .i64 2)] hF (by kernel_rfl) fun a hF => ?_
                            refine wl (eP 138 (v0 := .bool (!decide (2 = 2))) (v := .bool false) hF (by kernel_rfl) (fun _ => by kernel_rfl) (nT (by omega)) fun a hF => ?_)
                            refine sB 1 [(139, .bool false)] hF (by kernel_rfl) fun a hF => ?_
                            refine wpList_nil ?_
                            refine hK96 _ _ ?_
                            refine cF hF (by kernel_rfl) (by kernel_rfl) ?_
                            refine wp_skip ?_
                            refine hK91 _ _ ?_
                            refine wp_region_lit ?_
                            refine wl (eP 140 (v0 := .int .i64 (IntKind.i64.wrap (2 + 1))) (v := .int .i64 3) hF (by kernel_rfl) (fun _ => by kernel_rfl) (vi (by decide)) fun a hF => ?_)
                            refine sB 1 [(106, .int .i64 3)] hF (by kernel_rfl) fun a hF => ?_
                            refine wpList_nil ?_
                            refine hK88 _ _ ?_
                            refine rounds_k fun K97 hK97 => ?_
                            refine wp_seq_k fun K98 hK98 => ?_
                            refine wp_region_lit ?_
                            refine wl (eP 107 (v0 := .bool (decide (3 < 6))) (v := .bool true) hF (by kernel_rfl) (fun _ => by kernel_rfl) (bT (by omega)) fun a hF => ?_)
                            refine wpList_nil ?_
                            refine hK98 _ _ ?_
                            refine wp_seq_k fun K99 hK99 => ?_
                            refine cT hF (by kernel_rfl) (by kernel_rfl) ?_
                            refine wp_skip ?_
                            refine hK99 _ _ ?_
                            refine wp_seq_k fun K100 hK100 => ?_
                            refine wp_block ?_
                            refine wp_seq_k fun K101 hK101 => ?_
                            refine wp_region_lit ?_
                            refine sB 2 [(108, .slice AA51 1 cc51), (13, .slice AA51 1 cc51)] hF (by kernel_rfl) fun a hF => ?_
                            refine wpList_nil ?_
                            refine hK101 _ _ ?_
                            refine wp_seq_k fun K102 hK102 => ?_
                            refine wp_region_lit ?_
                            refine wl (eL 110 1 0 (v := .agg #[.int .i64 1, .int .i64 1]) hF hM (by kernel_rfl) rfl rfl (by kernel_rfl) (by kernel_rfl) fun a w hF hM => ?_)
                            refine sB 1 [(111, .slice AA51 1 cc51)] hF (by kernel_rfl) fun a hF => ?_
                            refine wl (eM 112 (v := .tuple #[.bool false, .int .i64 131]) hF hM (by kernel_rfl) (Yld.to (yld_call (f := 23) (args := #[.agg #[.int .i64 1, .int .i64 1], .slice AA51 1 cc51]) hF (by kernel_rfl) (fun _ => by kernel_rfl) (fun w hM => conforms_w 1 1 AA51 ([(1099511627777, 1)]) _ w (ro_of_own (hM.ok 51 _ rfl)))) (by kernel_rfl)) fun a w hF hM => ?_)
                            refine sB 5 [(109, .tuple #[.bool false, .int .i64 131]), (113, .bool false), (114, .int .i64 131), (14, .bool false), (15, .int .i64 131)] hF (by kernel_rfl) fun a hF => ?_
                            refine wpList_nil ?_
                            refine hK102 _ _ ?_
                            refine wp_seq_k fun K103 hK103 => ?_
                            refine wp_region_lit ?_
                            refine sB 1 [(116, .slice AA51 1 cc51)] hF (by kernel_rfl) fun a hF => ?_
                            refine wl (eM 117 (v := .tuple #[.int .i64 0, .int .i64 131]) hF hM (by kernel_rfl) (Yld.to (yld_call (f := 27) (args := #[.int .i64 1, .slice AA51 1 cc51]) hF (by kernel_rfl) (fun _ => by kernel_rfl) (fun w hM => bLeast_w 1 AA51 ([(1099511627777, 1)]) _ w (ro_of_own (hM.ok 51 _ rfl)))) (by kernel_rfl)) fun a w hF hM => ?_)
                            refine sB 5 [(115, .tuple #[.int .i64 0, .int .i64 131]), (118, .int .i64 0), (119, .int .i64 131), (16, .int .i64 0), (17, .int .i64 131)] hF (by kernel_rfl) fun a hF => ?_
                            refine wpList_nil ?_
                            refine hK103 _ _ ?_
                            refine wp_seq_k fun K104 hK104 => ?_
                            refine wp_region_lit ?_
                            refine sB 1 [(121, .slice AA51 1 cc51)] hF (by kernel_rfl) fun a hF => ?_
                            refine wl (eM 122 (v := .tuple #[.int .i64 0, .int .i64 2]) hF hM (by kernel_rfl) (Yld.to (yld_call (f := 27) (args := #[.int .i64 0, .slice AA51 1 cc51]) hF (by kernel_rfl) (fun _ => by kernel_rfl) (fun w hM => bLeast_w 0 AA51 ([(1099511627777, 1)]) _ w (ro_of_own (hM.ok 51 _ rfl)))) (by kernel_rfl)) fun a w hF hM => ?_)
                            refine sB 5 [(120, .tuple #[.int .i64 0, .int .i64 2]), (123, .int .i64 0), (124, .int .i64 2), (18, .int .i64 0), (19, .int .i64 2)] hF (by kernel_rfl) fun a hF => ?_
                            refine wpList_nil ?_
                            refine hK104 _ _ ?_
                            refine wp_seq_k fun K105 hK105 => ?_
                            refine wp_region_lit ?_
                            refine sB 1 [(125, .slice AA51 1 cc51)] hF (by kernel_rfl) fun a hF => ?_
                            refine wl (eM 126 (v := .int .i64 131) hF hM (by kernel_rfl) (Yld.to (yld_call (f := 18) (args := #[.slice AA51 1 cc51]) hF (by kernel_rfl) (fun _ => by kernel_rfl) (fun w hM => checkTrace_w AA51 ([(1099511627777, 1)]) _ w (ro_of_own (hM.ok 51 _ rfl)))) (by kernel_rfl)) fun a w hF hM => ?_)
                            refine wl (eP 127 (v0 := .bool (!decide (131 = 131))) (v := .bool false) hF (by kernel_rfl) (fun _ => by kernel_rfl) (nT (by omega)) fun a hF => ?_)
                            refine sB 2 [(128, .bool false), (129, .int .i64 131)] hF (by kernel_rfl) fun a hF => ?_
                            refine wl (eP 130 (v0 := .bool (!decide (131 = 131))) (v := .bool false) hF (by kernel_rfl) (fun _ => by kernel_rfl) (nT (by omega)) fun a hF => ?_)
                            refine sB 3 [(131, .bool false), (132, .bool false), (133, .int .i64 131)] hF (by kernel_rfl) fun a hF => ?_
                            refine wl (eP 134 (v0 := .bool (!decide (131 = 131))) (v := .bool false) hF (by kernel_rfl) (fun _ => by kernel_rfl) (nT (by omega)) fun a hF => ?_)
                            refine sB 3 [(135, .bool false), (136, .bool false), (137, .int .i64 2)] hF (by kernel_rfl) fun a hF => ?_
                            refine wl (eP 138 (v0 := .bool (!decide (2 = 2))) (v := .bool false) hF (by kernel_rfl) (fun _ => by kernel_rfl) (nT (by omega)) fun a hF => ?_)
                            refine sB 1 [(139, .bool false)] hF (by kernel_rfl) fun a hF => ?_
                            refine wpList_nil ?_
                            refine hK105 _ _ ?_
                            refine cF hF (by kernel_rfl) (by kernel_rfl) ?_
                            refine wp_skip ?_
                            refine hK100 _ _ ?_
                            refine wp_region_lit ?_
                            refine wl (eP 140 (v0 := .int .i64 (IntKind.i64.wrap (3 + 1))) (v := .int .i64 4) hF (by kernel_rfl) (fun _ => by kernel_rfl) (vi (by decide)) fun a hF => ?_)
                            refine sB 1 [(106, .int .i64 4)] hF (by kernel_rfl) fun a hF => ?_
                            refine wpList_nil ?_
                            refine hK97 _ _ ?_
                            refine rounds_k fun K106 hK106 => ?_
                            refine wp_seq_k fun K107 hK107 => ?_
                            refine wp_region_lit ?_
                            refine wl (eP 107 (v0 := .bool (decide (4 < 6))) (v := .bool true) hF (by kernel_rfl) (fun _ => by kernel_rfl) (bT (by omega)) fun a hF => ?_)
                            refine wpList_nil ?_
                            refine hK107 _ _ ?_
                            refine wp_seq_k fun K108 hK108 => ?_
                            refine cT hF (by kernel_rfl) (by kernel_rfl) ?_
                            refine wp_skip ?_
                            refine hK108 _ _ ?_
                            refine wp_seq_k fun K109 hK109 => ?_
                            refine wp_block ?_
                            refine wp_seq_k fun K110 hK110 => ?_
                            refine wp_region_lit ?_
                            refine sB 2 [(108, .slice AA53 1 cc53), (13, .slice AA53 1 cc53)] hF (by kernel_rfl) fun a hF => ?_
                            refine wpList_nil ?_
                            refine hK110 _ _ ?_
                            refine wp_seq_k fun K111 hK111 => ?_
                            refine wp_region_lit ?_
                            refine wl (eL 110 1 0 (v := .agg #[.int .i64 1, .int .i64 1]) hF hM (by kernel_rfl) rfl rfl (by kernel_rfl) (by kernel_rfl) fun a w hF hM => ?_)
                            refine sB 1 [(111, .slice AA53 1 cc53)] hF (by kernel_rfl) fun a hF => ?_
                            refine wl (eM 112 (v := .tuple #[.bool false, .int .i64 131]) hF hM (by kernel_rfl) (Yld.to (yld_call (f := 23) (args := #[.agg #[.int .i64 1, .int .i64 1], .slice AA53 1 cc53]) hF (by kernel_rfl) (fun _ => by kernel_rfl) (fun w hM => conforms_w 1 1 AA53 ([(0, 1048577)]) _ w (ro_of_own (hM.ok 53 _ rfl)))) (by kernel_rfl)) fun a w hF hM => ?_)
                            refine sB 5 [(109, .tuple #[.bool false, .int .i64 131]), (113, .bool false), (114, .int .i64 131), (14, .bool false), (15, .int .i64 131)] hF (by kernel_rfl) fun a hF => ?_
                            refine wpList_nil ?_
                            refine hK111 _ _ ?_
                            refine wp_seq_k fun K112 hK112 => ?_
                            refine wp_region_lit ?_
                            refine sB 1 [(116, .slice AA53 1 cc53)] hF (by kernel_rfl) fun a hF => ?_
                            refine wl (eM 117 (v := .tuple #[.int .i64 0, .int .i64 131]) hF hM (by kernel_rfl) (Yld.to (yld_call (f := 27) (args := #[.int .i64 1, .slice AA53 1 cc53]) hF (by kernel_rfl) (fun _ => by kernel_rfl) (fun w hM => bLeast_w 1 AA53 ([(0, 1048577)]) _ w (ro_of_own (hM.ok 53 _ rfl)))) (by kernel_rfl)) fun a w hF hM => ?_)
                            refine sB 5 [(115, .tuple #[.int .i64 0, .int .i64 131]), (118, .int .i64 0), (119, .int .i64 131), (16, .int .i64 0), (17, .int .i64 131)] hF (by kernel_rfl) fun a hF => ?_
                            refine wpList_nil ?_
                            refine hK112 _ _ ?_
                            refine wp_seq_k fun K113 hK113 => ?_
                            refine wp_region_lit ?_
                            refine sB 1 [(121, .slice AA53 1 cc53)] hF (by kernel_rfl) fun a hF => ?_
                            refine wl (eM 122 (v := .tuple #[.int .i64 0, .int .i64 2]) hF hM (by kernel_rfl) (Yld.to (yld_call (f := 27) (args := #[.int .i64 0, .slice AA53 1 cc53]) hF (by kernel_rfl) (fun _ => by kernel_rfl) (fun w hM => bLeast_w 0 AA53 ([(0, 1048577)]) _ w (ro_of_own (hM.ok 53 _ rfl)))) (by kernel_rfl)) fun a w hF hM => ?_)
                            refine sB 5 [(120, .tuple #[.int .i64 0, .int .i64 2]), (123, .int .i64 0), (124, .int .i64 2), (18, .int .i64 0), (19, .int .i64 2)] hF (by kernel_rfl) fun a hF => ?_
                            refine wpList_nil ?_
                            refine hK113 _ _ ?_
                            refine wp_seq_k fun K114 hK114 => ?_
                            refine wp_region_lit ?_
                            refine sB 1 [(125, .slice AA53 1 cc53)] hF (by kernel_rfl) fun a hF => ?_
                            refine wl (eM 126 (v := .int .i64 131) hF hM (by kernel_rfl) (Yld.to (yld_call (f := 18) (args := #[.slice AA53 1 cc53]) hF (by kernel_rfl) (fun _ => by kernel_rfl) (fun w hM => checkTrace_w AA53 ([(0, 1048577)]) _ w (ro_of_own (hM.ok 53 _ rfl)))) (by kernel_rfl)) fun a w hF hM => ?_)
                            refine wl (eP 127 (v0 := .bool (!decide (131 = 131))) (v := .bool false) hF (by kernel_rfl) (fun _ => by kernel_rfl) (nT (by omega)) fun a hF => ?_)
                            refine sB 2 [(128, .bool false), (129, .int .i64 131)] hF (by kernel_rfl) fun a hF => ?_
                            refine wl (eP 130 (v0 := .bool (!decide (131 = 131))) (v := .bool false) hF (by kernel_rfl) (fun _ => by kernel_rfl) (nT (by omega)) fun a hF => ?_)
                            refine sB 3 [(131, .bool false), (132, .bool false), (133, .int .i64 131)] hF (by kernel_rfl) fun a hF => ?_
                            refine wl (eP 134 (v0 := .bool (!decide (131 = 131))) (v := .bool false) hF (by kernel_rfl) (fun _ => by kernel_rfl) (nT (by omega)) fun a hF => ?_)
                            refine sB 3 [(135, .bool false), (136, .bool false), (137, .int .i64 2)] hF (by kernel_rfl) fun a hF => ?_
                            refine wl (eP 138 (v0 := .bool (!decide (2 = 2))) (v := .bool false) hF (by kernel_rfl) (fun _ => by kernel_rfl) (nT (by omega)) fun a hF => ?_)
                            refine sB 1 [(139, .bool false)] hF (by kernel_rfl) fun a hF => ?_
                            refine wpList_nil ?_
                            refine hK114 _ _ ?_
                            refine cF hF (by kernel_rfl) (by kernel_rfl) ?_
                            refine wp_skip ?_
                            refine hK109 _ _ ?_
                            refine wp_region_lit ?_
                            refine wl (eP 140 (v0 := .int .i64 (IntKind.i64.wrap (4 + 1))) (v := .int .i64 5) hF (by kernel_rfl) (fun _ => by kernel_rfl) (vi (by decide)) fun a hF => ?_)
                            refine sB 1 [(106, .int .i64 5)] hF (by kernel_rfl) fun a hF => ?_
                            refine wpList_nil ?_
                            refine hK106 _ _ ?_
                            refine rounds_k fun K115 hK115 => ?_
                            refine wp_seq_k fun K116 hK116 => ?_
                            refine wp_region_lit ?_
                            refine wl (eP 107 (v0 := .bool (decide (5 < 6))) (v := .bool true) hF (by kernel_rfl) (fun _ => by kernel_rfl) (bT (by omega)) fun a hF => ?_)
                            refine wpList_nil ?_
                            refine hK116 _ _ ?_
                            refine wp_seq_k fun K117 hK117 => ?_
                            refine cT hF (by kernel_rfl) (by kernel_rfl) ?_
                            refine wp_skip ?_
                            refine hK117 _ _ ?_
                            refine wp_seq_k fun K118 hK118 => ?_
                            refine wp_block ?_
                            refine wp_seq_k fun K119 hK119 => ?_
                            refine wp_region_lit ?_
                            refine sB 2 [(108, .slice (some ⟨bb54, 0, none⟩) 201 201), (13, .slice (some ⟨bb54, 0, none⟩) 201 201)] hF (by kernel_rfl) fun a hF => ?_
                            refine wpList_nil ?_
                            refine hK119 _ _ ?_
                            refine wp_seq_k fun K120 hK120 => ?_
                            refine wp_region_lit ?_
                            refine wl (eL 110 1 0 (v := .agg #[.int .i64 1, .int .i64 1]) hF hM (by kernel_rfl) rfl rfl (by kernel_rfl) (by kernel_rfl) fun a w hF hM => ?_)
                            refine sB 1 [(111, .slice (some ⟨bb54, 0, none⟩) 201 201)] hF (by kernel_rfl) fun a hF => ?_
                            refine wl (eM 112 (v := .tuple #[.bool false, .int .i64 131]) hF hM (by kernel_rfl) (Yld.to (yld_call (f := 23) (args := #[.agg #[.int .i64 1, .int .i64 1], .slice (some ⟨bb54, 0, none⟩) 201 201]) hF (by kernel_rfl) (fun _ => by kernel_rfl) (fun w hM => conforms_w 1 1 (some ⟨bb54, 0, none⟩) (List.replicate 201 (0, 0)) _ w (ro_of_own (hM.ok 54 _ rfl)))) (by kernel_rfl)) fun a w hF hM => ?_)
                            refine sB 5 [(109, .tuple #[.bool false, .int .i64 131]), (113, .bool false), (114, .int .i64 131), (14, .bool false), (15, .int .i64 131)] hF (by kernel_rfl) fun a hF => ?_
                            refine wpList_nil ?_
                            refine hK120 _ _ ?_
                            refine wp_seq_k fun K121 hK121 => ?_
                            refine wp_region_lit ?_
                            refine sB 1 [(116, .slice (some ⟨bb54, 0, none⟩) 201 201)] hF (by kernel_rfl) fun a hF => ?_
                            refine wl (eM 117 (v := .tuple #[.int .i64 0, .int .i64 131]) hF hM (by kernel_rfl) (Yld.to (yld_call (f := 27) (args := #[.int .i64 1, .slice (some ⟨bb54, 0, none⟩) 201 201]) hF (by kernel_rfl) (fun _ => by kernel_rfl) (fun w hM => bLeast_w 1 (some ⟨bb54, 0, none⟩) (List.replicate 201 (0, 0)) _ w (ro_of_own (hM.ok 54 _ rfl)))) (by kernel_rfl)) fun a w hF hM => ?_)
                            refine sB 5 [(115, .tuple #[.int .i64 0, .int .i64 131]), (118, .int .i64 0), (119, .int .i64 131), (16, .int .i64 0), (17, .int .i64 131)] hF (by kernel_rfl) fun a hF => ?_
                            refine wpList_nil ?_
                            refine hK121 _ _ ?_
                            refine wp_seq_k fun K122 hK122 => ?_
                            refine wp_region_lit ?_
                            refine sB 1 [(121, .slice (some ⟨bb54, 0, none⟩) 201 201)] hF (by kernel_rfl) fun a hF => ?_
                            refine wl (eM 122 (v := .tuple #[.int .i64 0, .int .i64 2]) hF hM (by kernel_rfl) (Yld.to (yld_call (f := 27) (args := #[.int .i64 0, .slice (some ⟨bb54, 0, none⟩) 201 201]) hF (by kernel_rfl) (fun _ => by kernel_rfl) (fun w hM => bLeast_w 0 (some ⟨bb54, 0, none⟩) (List.replicate 201 (0, 0)) _ w (ro_of_own (hM.ok 54 _ rfl)))) (by kernel_rfl)) fun a w hF hM => ?_)
                            refine sB 5 [(120, .tuple #[.int .i64 0, .int .i64 2]), (123, .int .i64 0), (124, .int .i64 2), (18, .int .i64 0), (19, .int .i64 2)] hF (by kernel_rfl) fun a hF => ?_
                            refine wpList_nil ?_
                            refine hK122 _ _ ?_
                            refine wp_seq_k fun K123 hK123 => ?_
                            refine wp_region_lit ?_
                            refine sB 1 [(125, .slice (some ⟨bb54, 0, none⟩) 201 201)] hF (by kernel_rfl) fun a hF => ?_
                            refine wl (eM 126 (v := .int .i64 131) hF hM (by kernel_rfl) (Yld.to (yld_call (f := 18) (args := #[.slice (some ⟨bb54, 0, none⟩) 201 201]) hF (by kernel_rfl) (fun _ => by kernel_rfl) (fun w hM => checkTrace_w (some ⟨bb54, 0, none⟩) (List.replicate 201 (0, 0)) _ w (ro_of_own (hM.ok 54 _ rfl)))) (by kernel_rfl)) fun a w hF hM => ?_)
                            refine wl (eP 127 (v0 := .bool (!decide (131 = 131))) (v := .bool false) hF (by kernel_rfl) (fun _ => by kernel_rfl) (nT (by omega)) fun a hF => ?_)
                            refine sB 2 [(128, .bool false), (129, .int .i64 131)] hF (by kernel_rfl) fun a hF => ?_
                            refine wl (eP 130 (v0 := .bool (!decide (131 = 131))) (v := .bool false) hF (by kernel_rfl) (fun _ => by kernel_rfl) (nT (by omega)) fun a hF => ?_)
                            refine sB 3 [(131, .bool false), (132, .bool false), (133, .int .i64 131)] hF (by kernel_rfl) fun a hF => ?_
                            refine wl (eP 134 (v0 := .bool (!decide (131 = 131))) (v := .bool false) hF (by kernel_rfl) (fun _ => by kernel_rfl) (nT (by omega)) fun a hF => ?_)
                            refine sB 3 [(135, .bool false), (136, .bool false), (137, .int .i64 2)] hF (by kernel_rfl) fun a hF => ?_
                            refine wl (eP 138 (v0 := .bool (!decide (2 = 2))) (v := .bool false) hF (by kernel_rfl) (fun _ => by kernel_rfl) (nT (by omega)) fun a hF => ?_)
                            refine sB 1 [(139, .bool false)] hF (by kernel_rfl) fun a hF => ?_
                            refine wpList_nil ?_
                            refine hK123 _ _ ?_
                            refine cF hF (by kernel_rfl) (by kernel_rfl) ?_
                            refine wp_skip ?_
                            refine hK118 _ _ ?_
                            refine wp_region_lit ?_
                            refine wl (eP 140 (v0 := .int .i64 (IntKind.i64.wrap (5 + 1))) (v := .int .i64 6) hF (by kernel_rfl) (fun _ => by kernel_rfl) (vi (by decide)) fun a hF => ?_)
                            refine sB 1 [(106, .int .i64 6)] hF (by kernel_rfl) fun a hF => ?_
                            refine wpList_nil ?_
                            refine hK115 _ _ ?_
                            refine rounds_k fun K124 hK124 => ?_
                            refine wp_seq_k fun K125 hK125 => ?_
                            refine wp_region_lit ?_
                            refine wl (eP 107 (v0 := .bool (decide (6 < 6))) (v := .bool false) hF (by kernel_rfl) (fun _ => by kernel_rfl) (bF (by omega)) fun a hF => ?_)
                            refine wpList_nil ?_
                            refine hK125 _ _ ?_
                            refine wp_seq_k fun K126 hK126 => ?_
                            refine cF hF (by kernel_rfl) (by kernel_rfl) ?_
                            refine wp_exit ?_
                            refine hK68 _ _ ?_
                            refine wp_seq_k fun K127 hK127 => ?_
                            refine wp_region_lit ?_
                            refine sB 1 [(141, .agg #[.int .i64 1048576, .int .i64 2097152])] hF (by kernel_rfl) fun a hF => ?_
                            refine wl (eN 20 55 (t := 23) (fun b => .pointer (some ⟨b, 0, none⟩)) #[.int .i64 0, .int .i64 0] hF hM (by kernel_rfl) (fun _ => by kernel_rfl) fun bb55 a w hF hM => ?_)
                            refine wl (sStore (i := 55) (off := 0) (cs' := #[.int .i64 1048576, .int .i64 2097152]) hF hM (by kernel_rfl) rfl rfl (by kernel_rfl) (by kernel_rfl) rfl (by kernel_rfl) fun w hM => ?_)
                            refine wpList_nil ?_
                            refine hK127 _ _ ?_
                            refine wp_seq_k fun K128 hK128 => ?_
                            refine wp_region_lit ?_
                            refine wl (eL 143 55 0 (v := .agg #[.int .i64 1048576, .int .i64 2097152]) hF hM (by kernel_rfl) rfl rfl (by kernel_rfl) (by kernel_rfl) fun a w hF hM => ?_)
                            refine wl (eM 144 (v := .tuple #[.int .i64 2199024304128, .int .i64 0]) hF hM (by kernel_rfl) (Yld.to (yld_call (f := 13) (args := #[.agg #[.int .i64 1048576, .int .i64 2097152], .int .i64 1099511627776]) hF (by kernel_rfl) (fun _ => by kernel_rfl) (fun w hM => bWithin_w 1048576 2097152 1099511627776 w)) (by kernel_rfl)) fun a w hF hM => ?_)
                            refine sB 5 [(142, .tuple #[.int .i64 2199024304128, .int .i64 0]), (145, .int .i64 2199024304128), (146, .int .i64 0), (21, .int .i64 2199024304128), (22, .int .i64 0)] hF (by kernel_rfl) fun a hF => ?_
                            refine wpList_nil ?_
                            refine hK128 _ _ ?_
                            refine wp_seq_k fun K129 hK129 => ?_
                            refine wp_region_lit ?_
                            refine wl (eL 148 55 0 (v := .agg #[.int .i64 1048576, .int .i64 2097152]) hF hM (by kernel_rfl) rfl rfl (by kernel_rfl) (by kernel_rfl) fun a w hF hM => ?_)
                            refine wl (eM 149 (v := .tuple #[.int .i64 0, .int .i64 2]) hF hM (by kernel_rfl) (Yld.to (yld_call (f := 13) (args := #[.agg #[.int .i64 1048576, .int .i64 2097152], .int .i64 1099511627777]) hF (by kernel_rfl) (fun _ => by kernel_rfl) (fun w hM => bWithin_w 1048576 2097152 1099511627777 w)) (by kernel_rfl)) fun a w hF hM => ?_)
                            refine sB 5 [(147, .tuple #[.int .i64 0, .int .i64 2]), (150, .int .i64 0), (151, .int .i64 2), (23, .int .i64 0), (24, .int .i64 2)] hF (by kernel_rfl) fun a hF => ?_
                            refine wpList_nil ?_
                            refine hK129 _ _ ?_
                            refine wp_seq_k fun K130 hK130 => ?_
                            refine wp_region_lit ?_
                            refine wl (eM 153 (v := .tuple #[.agg #[.int .i64 0, .int .i64 0], .int .i64 2]) hF hM (by kernel_rfl) (Yld.to (yld_call (f := 11) (args := #[.slice none 0 0]) hF (by kernel_rfl) (fun _ => by kernel_rfl) (fun w hM => bSum_w none ([] : List (Int × Int)) _ w Ro.nil)) (by kernel_rfl)) fun a w hF hM => ?_)
                            refine sB 3 [(152, .tuple #[.agg #[.int .i64 0, .int .i64 0], .int .i64 2]), (154, .agg #[.int .i64 0, .int .i64 0]), (155, .int .i64 2)] hF (by kernel_rfl) fun a hF => ?_
                            refine wl (eN 25 56 (t := 23) (fun b => .pointer (some ⟨b, 0, none⟩)) #[.int .i64 0, .int .i64 0] hF hM (by kernel_rfl) (fun _ => by kernel_rfl) fun bb56 a w hF hM => ?_)
                            refine wl (sStore (i := 56) (off := 0) (cs' := #[.int .i64 0, .int .i64 0]) hF hM (by kernel_rfl) rfl rfl (by kernel_rfl) (by kernel_rfl) rfl (by kernel_rfl) fun w hM => ?_)
                            refine sB 1 [(26, .int .i64 2)] hF (by kernel_rfl) fun a hF => ?_
                            refine wpList_nil ?_
                            refine hK130 _ _ ?_
                            refine wp_seq_k fun K131 hK131 => ?_
                            refine wp_region_lit ?_
                            refine wl (sMake 157 57 13 (e := 23) (size := 2) (bytes := 16) (z := .agg #[.int .i64 0, .int .i64 0]) (flat2 (List.replicate 13 (0, 0))) hF hM (by kernel_rfl) rfl (by kernel_rfl) (by kernel_rfl) (by kernel_rfl) (by kernel_rfl) (by omega) (by unfold maxLen; omega) fun bb57 a w hF hM => ?_)
                            refine wl (eM 158 (v := .tuple #[.agg #[.int .i64 0, .int .i64 0], .int .i64 3]) hF hM (by kernel_rfl) (Yld.to (yld_call (f := 11) (args := #[.slice (some ⟨bb57, 0, none⟩) 13 13]) hF (by kernel_rfl) (fun _ => by kernel_rfl) (fun w hM => bSum_w (some ⟨bb57, 0, none⟩) (List.replicate 13 (0, 0)) _ w (ro_of_own (hM.ok 57 _ rfl)))) (by kernel_rfl)) fun a w hF hM => ?_)
                            refine sB 3 [(156, .tuple #[.agg #[.int .i64 0, .int .i64 0], .int .i64 3]), (159, .agg #[.int .i64 0, .int .i64 0]), (160, .int .i64 3)] hF (by kernel_rfl) fun a hF => ?_
                            refine wl (eN 27 58 (t := 23) (fun b => .pointer (some ⟨b, 0, none⟩)) #[.int .i64 0, .int .i64 0] hF hM (by kernel_rfl) (fun _ => by kernel_rfl) fun bb58 a w hF hM => ?_)
                            refine wl (sStore (i := 58) (off := 0) (cs' := #[.int .i64 0, .int .i64 0]) hF hM (by kernel_rfl) rfl rfl (by kernel_rfl) (by kernel_rfl) rfl (by kernel_rfl) fun w hM => ?_)
                            refine sB 1 [(28, .int .i64 3)] hF (by kernel_rfl) fun a hF => ?_
                            refine wpList_nil ?_
                            refine hK131 _ _ ?_
                            refine wp_seq_k fun K132 hK132 => ?_
                            refine wp_region_lit ?_
                            refine wl (eL 162 55 0 (v := .agg #[.int .i64 1048576, .int .i64 2097152]) hF hM (by kernel_rfl) rfl rfl (by kernel_rfl) (by kernel_rfl) fun a w hF hM => ?_)
                            refine wl (eL 163 1 0 (v := .agg #[.int .i64 1, .int .i64 1]) hF hM (by kernel_rfl) rfl rfl (by kernel_rfl) (by kernel_rfl) fun a w hF hM => ?_)
                            refine wl (eN 164 59 (t := 23) (fun b => .slice (some ⟨b, 0, none⟩) 2 2) #[.int .i64 1048576, .int .i64 2097152, .int .i64 1, .int .i64 1] hF hM (by kernel_rfl) (fun _ => by kernel_rfl) fun bb59 a w hF hM => ?_)
                            refine wl (eM 165 (v := .tuple #[.agg #[.int .i64 0, .int .i64 0], .int .i64 6]) hF hM (by kernel_rfl) (Yld.to (yld_call (f := 11) (args := #[.slice (some ⟨bb59, 0, none⟩) 2 2]) hF (by kernel_rfl) (fun _ => by kernel_rfl) (fun w hM => bSum_w (some ⟨bb59, 0, none⟩) [(1048576, 2097152), (1, 1)] _ w (hM.roRow (k := 59) rfl))) (by kernel_rfl)) fun a w hF hM => ?_)
                            refine sB 3 [(161, .tuple #[.agg #[.int .i64 0, .int .i64 0], .int .i64 6]), (166, .agg #[.int .i64 0, .int .i64 0]), (167, .int .i64 6)] hF (by kernel_rfl) fun a hF => ?_
                            refine wl (eN 29 60 (t := 23) (fun b => .pointer (some ⟨b, 0, none⟩)) #[.int .i64 0, .int .i64 0] hF hM (by kernel_rfl) (fun _ => by kernel_rfl) fun bb60 a w hF hM => ?_)
                            refine wl (sStore (i := 60) (off := 0) (cs' := #[.int .i64 0, .int .i64 0]) hF hM (by kernel_rfl) rfl rfl (by kernel_rfl) (by kernel_rfl) rfl (by kernel_rfl) fun w hM => ?_)
                            refine sB 1 [(30, .int .i64 6)] hF (by kernel_rfl) fun a hF => ?_
                            refine wpList_nil ?_
                            refine hK132 _ _ ?_
                            refine wp_seq_k fun K133 hK133 => ?_
                            refine wp_region_lit ?_
                            refine wl (eL 169 55 0 (v := .agg #[.int .i64 1048576, .int .i64 2097152]) hF hM (by kernel_rfl) rfl rfl (by kernel_rfl) (by kernel_rfl) fun a w hF hM => ?_)
                            refine wl (eN 170 61 (t := 23) (fun b => .slice (some ⟨b, 0, none⟩) 1 1) #[.int .i64 1048576, .int .i64 2097152] hF hM (by kernel_rfl) (fun _ => by kernel_rfl) fun bb61 a w hF hM => ?_)
                            refine wl (eM 171 (v := .tuple #[.agg #[.int .i64 1048576, .int .i64 2097152], .int .i64 0]) hF hM (by kernel_rfl) (Yld.to (yld_call (f := 11) (args := #[.slice (some ⟨bb61, 0, none⟩) 1 1]) hF (by kernel_rfl) (fun _ => by kernel_rfl) (fun w hM => bSum_w (some ⟨bb61, 0, none⟩) [(1048576, 2097152)] _ w (hM.roRow (k := 61) rfl))) (by kernel_rfl)) fun a w hF hM => ?_)
                            refine sB 3 [(168, .tuple #[.agg #[.int .i64 1048576, .int .i64 2097152], .int .i64 0]), (172, .agg #[.int .i64 1048576, .int .i64 2097152]), (173, .int .i64 0)] hF (by kernel_rfl) fun a hF => ?_
                            refine wl (eN 31 62 (t := 23) (fun b => .pointer (some ⟨b, 0, none⟩)) #[.int .i64 0, .int .i64 0] hF hM (by kernel_rfl) (fun _ => by kernel_rfl) fun bb62 a w hF hM => ?_)
                            refine wl (sStore (i := 62) (off := 0) (cs' := #[.int .i64 1048576, .int .i64 2097152]) hF hM (by kernel_rfl) rfl rfl (by kernel_rfl) (by kernel_rfl) rfl (by kernel_rfl) fun w hM => ?_)
                            refine sB 1 [(32, .int .i64 0)] hF (by kernel_rfl) fun a hF => ?_
                            refine wpList_nil ?_
                            refine hK133 _ _ ?_
                            refine wp_seq_k fun K134 hK134 => ?_
                            refine wp_region_lit ?_
                            refine wl (eN 175 63 (t := 3) (fun b => .slice (some ⟨b, 0, none⟩) 4 4) #[.int .i64 0, .int .i64 1048576, .int .i64 0, .int .i64 1] hF hM (by kernel_rfl) (fun _ => by kernel_rfl) fun bb63 a w hF hM => ?_)
                            refine wl (sOwn 64 (f := 31) (args := #[.slice (some ⟨bb63, 0, none⟩) 4 4]) (mk := fun v => v) (e := 30) (size := 2) (m := 2) (xs := (flat2 ([(0, 1048576), (0, 1)]))) hF hM (by kernel_rfl) rfl (by decide) (by kernel_rfl) (fun _ => by kernel_rfl) (trace_w (some ⟨bb63, 0, none⟩) [0, 1048576, 0, 1] 4 w (hM.roRow (k := 63) rfl) (by decide)) fun AA64 cc64 a w hF hM => ?_)
                            refine wl (eM 177 (v := .tuple #[.int .i64 0, .int .i64 6]) hF hM (by kernel_rfl) (Yld.to (yld_call (f := 27) (args := #[.int .i64 1, .slice AA64 2 cc64]) hF (by kernel_rfl) (fun _ => by kernel_rfl) (fun w hM => bLeast_w 1 AA64 ([(0, 1048576), (0, 1)]) _ w (ro_of_own (hM.ok 64 _ rfl)))) (by kernel_rfl)) fun a w hF hM => ?_)
                            refine sB 5 [(174, .tuple #[.int .i64 0, .int .i64 6]), (178, .int .i64 0), (179, .int .i64 6), (33, .int .i64 0), (34, .int .i64 6)] hF (by kernel_rfl) fun a hF => ?_
                            refine wpList_nil ?_
                            refine hK134 _ _ ?_
                            refine wp_seq_k fun K135 hK135 => ?_
                            refine wp_region_lit ?_
                            refine wl (eN 181 65 (t := 3) (fun b => .slice (some ⟨b, 0, none⟩) 6 6) #[.int .i64 0, .int .i64 5, .int .i64 1048576, .int .i64 5, .int .i64 1099511627776, .int .i64 9] hF hM (by kernel_rfl) (fun _ => by kernel_rfl) fun bb65 a w hF hM => ?_)
                            refine wl (sOwn 66 (f := 31) (args := #[.slice (some ⟨bb65, 0, none⟩) 6 6]) (mk := fun v => v) (e := 30) (size := 2) (m := 3) (xs := (flat2 ([(0, 5), (1048576, 5), (1099511627776, 9)]))) hF hM (by kernel_rfl) rfl (by decide) (by kernel_rfl) (fun _ => by kernel_rfl) (trace_w (some ⟨bb65, 0, none⟩) [0, 5, 1048576, 5, 1099511627776, 9] 6 w (hM.roRow (k := 65) rfl) (by decide)) fun AA66 cc66 a w hF hM => ?_)
                            refine wl (eM 183 (v := .tuple #[.int .i64 9, .int .i64 0]) hF hM (by kernel_rfl) (Yld.to (yld_call (f := 27) (args := #[.int .i64 1, .slice AA66 3 cc66]) hF (by kernel_rfl) (fun _ => by kernel_rfl) (fun w hM => bLeast_w 1 AA66 ([(0, 5), (1048576, 5), (1099511627776, 9)]) _ w (ro_of_own (hM.ok 66 _ rfl)))) (by kernel_rfl)) fun a w hF hM => ?_)
                            refine sB 5 [(180, .tuple #[.int .i64 9, .int .i64 0]), (184, .int .i64 9), (185, .int .i64 0), (35, .int .i64 9), (36, .int .i64 0)] hF (by kernel_rfl) fun a hF => ?_
                            refine wpList_nil ?_
                            refine hK135 _ _ ?_
                            refine wp_seq_k fun K136 hK136 => ?_
                            refine rF (by kernel_rfl) (by kernel_rfl) (fun S a w => ∃ bb67 : Nat, ∃ AA68 : Option Addr, ∃ cc68 : Nat, ∃ bb69 : Nat, ∃ AA70 : Option Addr, ∃ cc70 : Nat, ∃ bb71 : Nat, ∃ AA72 : Option Addr, ∃ cc72 : Nat, Fr 253 [(0, (cond (S.getD 67 false) (some (.bool true)) (some (.bool false)))), (1, some (.pointer (some ⟨bb1, 0, none⟩))), (20, some (.pointer (some ⟨bb55, 0, none⟩))), (21, some (.int .i64 2199024304128)), (22, some (.int .i64 0)), (24, some (.int .i64 2)), (26, some (.int .i64 2)), (28, some (.int .i64 3)), (30, some (.int .i64 6)), (31, some (.pointer (some ⟨bb62, 0, none⟩))), (32, some (.int .i64 0)), (34, some (.int .i64 6)), (35, some (.int .i64 9)), (36, some (.int .i64 0)), (186, (cond (S.getD 0 false) (some (.bool true)) none)), (187, (cond (S.getD 1 false) (some (.bool true)) none)), (188, (cond (S.getD 2 false) (some (.bool true)) none)), (189, (cond (S.getD 3 false) (some (.bool true)) none)), (190, (cond (S.getD 4 false) (some (.int .i64 2199024304128)) none)), (191, (cond (S.getD 5 false) (some (.bool true)) none)), (192, (cond (S.getD 6 false) (some (.bool true)) none)), (193, (cond (S.getD 7 false) (some (.bool true)) none)), (194, (cond (S.getD 8 false) (some (.int .i64 0)) none)), (195, (cond (S.getD 9 false) (some (.bool true)) none)), (196, (cond (S.getD 10 false) (some (.bool true)) none)), (197, (cond (S.getD 11 false) (some (.bool true)) none)), (198, (cond (S.getD 12 false) (some (.int .i64 2)) none)), (199, (cond (S.getD 13 false) (some (.bool true)) none)), (200, (cond (S.getD 14 false) (some (.bool true)) none)), (201, (cond (S.getD 15 false) (some (.bool true)) none)), (202, (cond (S.getD 16 false) (some (.int .i64 2)) none)), (203, (cond (S.getD 17 false) (some (.bool true)) none)), (204, (cond (S.getD 18 false) (some (.bool true)) none)), (205, (cond (S.getD 19 false) (some (.bool true)) none)), (206, (cond (S.getD 20 false) (some (.int .i64 3)) none)), (207, (cond (S.getD 21 false) (some (.bool true)) none)), (208, (cond (S.getD 22 false) (some (.bool true)) none)), (209, (cond (S.getD 23 false) (some (.bool true)) none)), (210, (cond (S.getD 24 false) (some (.int .i64 6)) none)), (211, (cond (S.getD 25 false) (some (.bool true)) none)), (212, (cond (S.getD 26 false) (some (.bool true)) none)), (213, (cond (S.getD 27 false) (some (.bool true)) none)), (214, (cond (S.getD 28 false) (some (.agg #[.int .i64 1048576, .int .i64 2097152])) none)), (215, (cond (S.getD 29 false) (some (.agg #[.int .i64 1048576, .int .i64 2097152])) none)), (216, (cond (S.getD 30 false) (some (.bool true)) none)), (217, (cond (S.getD 31 false) (some (.bool true)) none)), (218, (cond (S.getD 32 false) (some (.bool true)) none)), (219, (cond (S.getD 33 false) (some (.int .i64 0)) none)), (220, (cond (S.getD 34 false) (some (.bool true)) none)), (221, (cond (S.getD 35 false) (some (.bool true)) none)), (222, (cond (S.getD 36 false) (some (.bool true)) none)), (223, (cond (S.getD 37 false) (some (.int .i64 6)) none)), (224, (cond (S.getD 38 false) (some (.bool true)) none)), (225, (cond (S.getD 39 false) (some (.bool true)) none)), (226, (cond (S.getD 40 false) (some (.bool true)) none)), (227, (cond (S.getD 41 false) (some (.int .i64 9)) none)), (228, (cond (S.getD 42 false) (some (.bool true)) none)), (229, (cond (S.getD 43 false) (some (.bool true)) none)), (230, (cond (S.getD 44 false) (some (.bool true)) none)), (231, (cond (S.getD 45 false) (some (.int .i64 0)) none)), (232, (cond (S.getD 46 false) (some (.bool true)) none)), (233, (cond (S.getD 47 false) (some (.bool true)) none)), (234, (cond (S.getD 48 false) (some (.bool true)) none)), (235, (cond (S.getD 49 false) (some (.agg #[.int .i64 1048576, .int .i64 2097152])) none)), (236, (cond (S.getD 50 false) (some (.slice (some ⟨bb67, 0, none⟩) 4 4)) none)), (237, (cond (S.getD 51 false) (some (.slice AA68 2 cc68)) none)), (238, (cond (S.getD 52 false) (some (.bool true)) none)), (239, (cond (S.getD 53 false) (some (.bool true)) none)), (240, (cond (S.getD 54 false) (some (.bool true)) none)), (241, (cond (S.getD 55 false) (some (.agg #[.int .i64 1, .int .i64 1])) none)), (242, (cond (S.getD 56 false) (some (.slice (some ⟨bb69, 0, none⟩) 4 4)) none)), (243, (cond (S.getD 57 false) (some (.slice AA70 2 cc70)) none)), (244, (cond (S.getD 58 false) (some (.bool false)) none)), (245, (cond (S.getD 59 false) (some (.bool true)) none)), (246, (cond (S.getD 60 false) (some (.bool true)) none)), (247, (cond (S.getD 61 false) (some (.bool true)) none)), (248, (cond (S.getD 62 false) (some (.agg #[.int .i64 1, .int .i64 1])) none)), (249, (cond (S.getD 63 false) (some (.slice (some ⟨bb71, 0, none⟩) 4 4)) none)), (250, (cond (S.getD 64 false) (some (.slice AA72 2 cc72)) none)), (251, (cond (S.getD 65 false) (some (.bool true)) none)), (252, (cond (S.getD 66 false) (some (.bool true)) none))] a ∧ Mem w0.heap.size w0 [(1, some (.row bb1 23 #[.int .i64 1, .int .i64 1])), (55, some (.row bb55 23 #[.int .i64 1048576, .int .i64 2097152])), (62, some (.row bb62 23 #[.int .i64 1048576, .int .i64 2097152])), (67, (cond (S.getD 50 false) (some (.row bb67 3 #[.int .i64 0, .int .i64 1048576, .int .i64 549755813888, .int .i64 1048576])) none)), (68, (cond (S.getD 51 false) (some (.own (.slice AA68 2 cc68) 30 2 2 (flat2 ([(0, 1048576), (549755813888, 1048576)])))) none)), (69, (cond (S.getD 56 false) (some (.row bb69 3 #[.int .i64 0, .int .i64 1, .int .i64 1048575, .int .i64 1])) none)), (70, (cond (S.getD 57 false) (some (.own (.slice AA70 2 cc70) 30 2 2 (flat2 ([(0, 1), (1048575, 1)])))) none)), (71, (cond (S.getD 63 false) (some (.row bb71 3 #[.int .i64 0, .int .i64 1, .int .i64 1048576, .int .i64 1])) none)), (72, (cond (S.getD 64 false) (some (.own (.slice AA72 2 cc72) 30 2 2 (flat2 ([(0, 1), (1048576, 1)])))) none))] w) ?_ ?_ ?_
                            · exact ⟨0, none, 0, 0, none, 0, 0, none, 0, ((((((((((((((((((((((((((((((((((((((((((((((((((((((((((((((((((((((((((((((((((Fr.nil hF).co hF (i := 252) (by kernel_rfl)).co hF (i := 251) (by kernel_rfl)).co hF (i := 250) (by kernel_rfl)).co hF (i := 249) (by kernel_rfl)).co hF (i := 248) (by kernel_rfl)).co hF (i := 247) (by kernel_rfl)).co hF (i := 246) (by kernel_rfl)).co hF (i := 245) (by kernel_rfl)).co hF (i := 244) (by kernel_rfl)).co hF (i := 243) (by kernel_rfl)).co hF (i := 242) (by kernel_rfl)).co hF (i := 241) (by kernel_rfl)).co hF (i := 240) (by kernel_rfl)).co hF (i := 239) (by kernel_rfl)).co hF (i := 238) (by kernel_rfl)).co hF (i := 237) (by kernel_rfl)).co hF (i := 236) (by kernel_rfl)).co hF (i := 235) (by kernel_rfl)).co hF (i := 234) (by kernel_rfl)).co hF (i := 233) (by kernel_rfl)).co hF (i := 232) (by kernel_rfl)).co hF (i := 231) (by kernel_rfl)).co hF (i := 230) (by kernel_rfl)).co hF (i := 229) (by kernel_rfl)).co hF (i := 228) (by kernel_rfl)).co hF (i := 227) (by kernel_rfl)).co hF (i := 226) (by kernel_rfl)).co hF (i := 225) (by kernel_rfl)).co hF (i := 224) (by kernel_rfl)).co hF (i := 223) (by kernel_rfl)).co hF (i := 222) (by kernel_rfl)).co hF (i := 221) (by kernel_rfl)).co hF (i := 220) (by kernel_rfl)).co hF (i := 219) (by kernel_rfl)).co hF (i := 218) (by kernel_rfl)).co hF (i := 217) (by kernel_rfl)).co hF (i := 216) (by kernel_rfl)).co hF (i := 215) (by kernel_rfl)).co hF (i := 214) (by kernel_rfl)).co hF (i := 213) (by kernel_rfl)).co hF (i := 212) (by kernel_rfl)).co hF (i := 211) (by kernel_rfl)).co hF (i := 210) (by kernel_rfl)).co hF (i := 209) (by kernel_rfl)).co hF (i := 208) (by kernel_rfl)).co hF (i := 207) (by kernel_rfl)).co hF (i := 206) (by kernel_rfl)).co hF (i := 205) (by kernel_rfl)).co hF (i := 204) (by kernel_rfl)).co hF (i := 203) (by kernel_rfl)).co hF (i := 202) (by kernel_rfl)).co hF (i := 201) (by kernel_rfl)).co hF (i := 200) (by kernel_rfl)).co hF (i := 199) (by kernel_rfl)).co hF (i := 198) (by kernel_rfl)).co hF (i := 197) (by kernel_rfl)).co hF (i := 196) (by kernel_rfl)).co hF (i := 195) (by kernel_rfl)).co hF (i := 194) (by kernel_rfl)).co hF (i := 193) (by kernel_rfl)).co hF (i := 192) (by kernel_rfl)).co hF (i := 191) (by kernel_rfl)).co hF (i := 190) (by kernel_rfl)).co hF (i := 189) (by kernel_rfl)).co hF (i := 188) (by kernel_rfl)).co hF (i := 187) (by kernel_rfl)).co hF (i := 186) (by kernel_rfl)).co hF (i := 36) (by kernel_rfl)).co hF (i := 35) (by kernel_rfl)).co hF (i := 34) (by kernel_rfl)).co hF (i := 32) (by kernel_rfl)).co hF (i := 31) (by kernel_rfl)).co hF (i := 30) (by kernel_rfl)).co hF (i := 28) (by kernel_rfl)).co hF (i := 26) (by kernel_rfl)).co hF (i := 24) (by kernel_rfl)).co hF (i := 22) (by kernel_rfl)).co hF (i := 21) (by kernel_rfl)).co hF (i := 20) (by kernel_rfl)).co hF (i := 1) (by kernel_rfl)).co hF (i := 0) (by kernel_rfl)), hM.drew.sub (((((((((Sub.nil.co (k := 72) (by kernel_rfl)).co (k := 71) (by kernel_rfl)).co (k := 70) (by kernel_rfl)).co (k := 69) (by kernel_rfl)).co (k := 68) (by kernel_rfl)).co (k := 67) (by kernel_rfl)).co (k := 62) (by kernel_rfl)).co (k := 55) (by kernel_rfl)).co (k := 1) (by kernel_rfl))⟩
                            · refine stC ?_ (stC ?_ (stC ?_ (stC ?_ (stC ?_ (stC ?_ (stC ?_ (stC ?_ (stC ?_ (stC ?_ (stC ?_ (stC ?_ (stC ?_ (stC ?_ (stC ?_ (stC ?_ (stC ?_ (stC ?_ (stC ?_ (stC ?_ (stC ?_ (stC ?_ (stC ?_ (stC ?_ (stC ?_ (stC ?_ (stC ?_ (stC ?_ (stC ?_ (stC ?_ (stC ?_ (stC ?_ (stC ?_ (stC ?_ (stC ?_ (stC ?_ (stC ?_ (stC ?_ (stC ?_ (stC ?_ (stC ?_ (stC ?_ (stC ?_ (stC ?_ (stC ?_ (stC ?_ (stC ?_ (stC ?_ (stC ?_ (stC ?_ (stC ?_ (stC ?_ (stC ?_ (stC ?_ (stC ?_ (stC ?_ (stC ?_ (stC ?_ (stC ?_ (stC ?_ (stC ?_ (stC ?_ (stC ?_ (stC ?_ (stC ?_ (stC ?_ (stC ?_ (stC ?_ (trivial))))))))))))))))))))))))))))))))))))))))))))))))))))))))))))))))))))
                              · intro s0 s1 s2 s3 s4 s5 s6 s7 s8 s9 s10 s11 s12 s13 s14 s15 s16 s17 s18 s19 s20 s21 s22 s23 s24 s25 s26 s27 s28 s29 s30 s31 s32 s33 s34 s35 s36 s37 s38 s39 s40 s41 s42 s43 s44 s45 s46 s47 s48 s49 s50 s51 s52 s53 s54 s55 s56 s57 s58 s59 s60 s61 s62 s63 s64 s65 s66 s67 hc hi hp a w hS
                                obtain rfl : s0 = false := hi
                                obtain ⟨bb67, AA68, cc68, bb69, AA70, cc70, bb71, AA72, cc72, hF, hM⟩ := hS
                                refine eP 186 (v0 := .bool true) (v := .bool true) hF (by kernel_rfl) (fun _ => by kernel_rfl) rfl fun a hF => ?_
                                exact ⟨bb67, AA68, cc68, bb69, AA70, cc70, bb71, AA72, cc72, ((hF.repl 14 (by kernel_rfl)).cast (by kernel_rfl)), (hM.cast (by kernel_rfl))⟩
                              · intro s0 s1 s2 s3 s4 s5 s6 s7 s8 s9 s10 s11 s12 s13 s14 s15 s16 s17 s18 s19 s20 s21 s22 s23 s24 s25 s26 s27 s28 s29 s30 s31 s32 s33 s34 s35 s36 s37 s38 s39 s40 s41 s42 s43 s44 s45 s46 s47 s48 s49 s50 s51 s52 s53 s54 s55 s56 s57 s58 s59 s60 s61 s62 s63 s64 s65 s66 s67 hc hi hp a w hS
                                obtain rfl : s1 = false := hi
                                obtain rfl : s0 = true := hp 0 (by kernel_rfl)
                                obtain ⟨bb67, AA68, cc68, bb69, AA70, cc70, bb71, AA72, cc72, hF, hM⟩ := hS
                                refine eM 187 (v := .bool true) hF hM (by kernel_rfl) (yld_call (f := 21) (args := #[]) hF (by kernel_rfl) (fun _ => by kernel_rfl) (fun w hM => works_w w)) fun a w hF hM => ?_
                                exact ⟨bb67, AA68, cc68, bb69, AA70, cc70, bb71, AA72, cc72, ((hF.repl 15 (by kernel_rfl)).cast (by kernel_rfl)), (hM.cast (by kernel_rfl))⟩
                              · intro s0 s1 s2 s3 s4 s5 s6 s7 s8 s9 s10 s11 s12 s13 s14 s15 s16 s17 s18 s19 s20 s21 s22 s23 s24 s25 s26 s27 s28 s29 s30 s31 s32 s33 s34 s35 s36 s37 s38 s39 s40 s41 s42 s43 s44 s45 s46 s47 s48 s49 s50 s51 s52 s53 s54 s55 s56 s57 s58 s59 s60 s61 s62 s63 s64 s65 s66 s67 hc hi hp a w hS
                                obtain rfl : s2 = false := hi
                                obtain rfl : s1 = true := hp 1 (by kernel_rfl)
                                obtain rfl : s0 = true := hp 0 (by kernel_rfl)
                                obtain ⟨bb67, AA68, cc68, bb69, AA70, cc70, bb71, AA72, cc72, hF, hM⟩ := hS
                                refine eP 188 (v0 := .bool true) (v := .bool true) hF (by kernel_rfl) (fun _ => by kernel_rfl) rfl fun a hF => ?_
                                exact ⟨bb67, AA68, cc68, bb69, AA70, cc70, bb71, AA72, cc72, ((hF.repl 16 (by kernel_rfl)).cast (by kernel_rfl)), (hM.cast (by kernel_rfl))⟩
                              · intro s0 s1 s2 s3 s4 s5 s6 s7 s8 s9 s10 s11 s12 s13 s14 s15 s16 s17 s18 s19 s20 s21 s22 s23 s24 s25 s26 s27 s28 s29 s30 s31 s32 s33 s34 s35 s36 s37 s38 s39 s40 s41 s42 s43 s44 s45 s46 s47 s48 s49 s50 s51 s52 s53 s54 s55 s56 s57 s58 s59 s60 s61 s62 s63 s64 s65 s66 s67 hc hi hp a w hS
                                obtain rfl : s3 = false := hi
                                obtain rfl : s2 = true := hp 2 (by kernel_rfl)
                                obtain ⟨bb67, AA68, cc68, bb69, AA70, cc70, bb71, AA72, cc72, hF, hM⟩ := hS
                                refine eP 189 (v0 := .bool true) (v := .bool true) hF (by kernel_rfl) (fun _ => by kernel_rfl) rfl fun a hF => ?_
                                exact ⟨bb67, AA68, cc68, bb69, AA70, cc70, bb71, AA72, cc72, ((hF.repl 17 (by kernel_rfl)).cast (by kernel_rfl)), (hM.cast (by kernel_rfl))⟩
                              · intro s0 s1 s2 s3 s4 s5 s6 s7 s8 s9 s10 s11 s12 s13 s14 s15 s16 s17 s18 s19 s20 s21 s22 s23 s24 s25 s26 s27 s28 s29 s30 s31 s32 s33 s34 s35 s36 s37 s38 s39 s40 s41 s42 s43 s44 s45 s46 s47 s48 s49 s50 s51 s52 s53 s54 s55 s56 s57 s58 s59 s60 s61 s62 s63 s64 s65 s66 s67 hc hi hp a w hS
                                obtain rfl : s4 = false := hi
                                obtain rfl : s3 = true := hp 3 (by kernel_rfl)
                                obtain ⟨bb67, AA68, cc68, bb69, AA70, cc70, bb71, AA72, cc72, hF, hM⟩ := hS
                                refine eP 190 (v0 := .int .i64 2199024304128) (v := .int .i64 2199024304128) hF (by kernel_rfl) (fun _ => by kernel_rfl) rfl fun a hF => ?_
                                exact ⟨bb67, AA68, cc68, bb69, AA70, cc70, bb71, AA72, cc72, ((hF.repl 18 (by kernel_rfl)).cast (by kernel_rfl)), (hM.cast (by kernel_rfl))⟩
                              · intro s0 s1 s2 s3 s4 s5 s6 s7 s8 s9 s10 s11 s12 s13 s14 s15 s16 s17 s18 s19 s20 s21 s22 s23 s24 s25 s26 s27 s28 s29 s30 s31 s32 s33 s34 s35 s36 s37 s38 s39 s40 s41 s42 s43 s44 s45 s46 s47 s48 s49 s50 s51 s52 s53 s54 s55 s56 s57 s58 s59 s60 s61 s62 s63 s64 s65 s66 s67 hc hi hp a w hS
                                obtain rfl : s5 = false := hi
                                obtain rfl : s4 = true := hp 4 (by kernel_rfl)
                                obtain rfl : s3 = true := hp 3 (by kernel_rfl)
                                obtain ⟨bb67, AA68, cc68, bb69, AA70, cc70, bb71, AA72, cc72, hF, hM⟩ := hS
                                refine eP 191 (v0 := .bool (decide (2199024304128 = 2199024304128))) (v := .bool true) hF (by kernel_rfl) (fun _ => by kernel_rfl) (bT (by omega)) fun a hF => ?_
                                exact ⟨bb67, AA68, cc68, bb69, AA70, cc70, bb71, AA72, cc72, ((hF.repl 19 (by kernel_rfl)).cast (by kernel_rfl)), (hM.cast (by kernel_rfl))⟩
                              · intro s0 s1 s2 s3 s4 s5 s6 s7 s8 s9 s10 s11 s12 s13 s14 s15 s16 s17 s18 s19 s20 s21 s22 s23 s24 s25 s26 s27 s28 s29 s30 s31 s32 s33 s34 s35 s36 s37 s38 s39 s40 s41 s42 s43 s44 s45 s46 s47 s48 s49 s50 s51 s52 s53 s54 s55 s56 s57 s58 s59 s60 s61 s62 s63 s64 s65 s66 s67 hc hi hp a w hS
                                obtain rfl : s6 = false := hi
                                obtain rfl : s5 = true := hp 5 (by kernel_rfl)
                                obtain rfl : s3 = true := hp 3 (by kernel_rfl)
                                obtain ⟨bb67, AA68, cc68, bb69, AA70, cc70, bb71, AA72, cc72, hF, hM⟩ := hS
                                refine eP 192 (v0 := .bool true) (v := .bool true) hF (by kernel_rfl) (fun _ => by kernel_rfl) rfl fun a hF => ?_
                                exact ⟨bb67, AA68, cc68, bb69, AA70, cc70, bb71, AA72, cc72, ((hF.repl 20 (by kernel_rfl)).cast (by kernel_rfl)), (hM.cast (by kernel_rfl))⟩
                              · intro s0 s1 s2 s3 s4 s5 s6 s7 s8 s9 s10 s11 s12 s13 s14 s15 s16 s17 s18 s19 s20 s21 s22 s23 s24 s25 s26 s27 s28 s29 s30 s31 s32 s33 s34 s35 s36 s37 s38 s39 s40 s41 s42 s43 s44 s45 s46 s47 s48 s49 s50 s51 s52 s53 s54 s55 s56 s57 s58 s59 s60 s61 s62 s63 s64 s65 s66 s67 hc hi hp a w hS
                                obtain rfl : s7 = false := hi
                                obtain rfl : s6 = true := hp 6 (by kernel_rfl)
                                obtain ⟨bb67, AA68, cc68, bb69, AA70, cc70, bb71, AA72, cc72, hF, hM⟩ := hS
                                refine eP 193 (v0 := .bool true) (v := .bool true) hF (by kernel_rfl) (fun _ => by kernel_rfl) rfl fun a hF => ?_
                                exact ⟨bb67, AA68, cc68, bb69, AA70, cc70, bb71, AA72, cc72, ((hF.repl 21 (by kernel_rfl)).cast (by kernel_rfl)), (hM.cast (by kernel_rfl))⟩
                              · intro s0 s1 s2 s3 s4 s5 s6 s7 s8 s9 s10 s11 s12 s13 s14 s15 s16 s17 s18 s19 s20 s21 s22 s23 s24 s25 s26 s27 s28 s29 s30 s31 s32 s33 s34 s35 s36 s37 s38 s39 s40 s41 s42 s43 s44 s45 s46 s47 s48 s49 s50 s51 s52 s53 s54 s55 s56 s57 s58 s59 s60 s61 s62 s63 s64 s65 s66 s67 hc hi hp a w hS
                                obtain rfl : s8 = false := hi
                                obtain rfl : s7 = true := hp 7 (by kernel_rfl)
                                obtain ⟨bb67, AA68, cc68, bb69, AA70, cc70, bb71, AA72, cc72, hF, hM⟩ := hS
                                refine eP 194 (v0 := .int .i64 0) (v := .int .i64 0) hF (by kernel_rfl) (fun _ => by kernel_rfl) rfl fun a hF => ?_
                                exact ⟨bb67, AA68, cc68, bb69, AA70, cc70, bb71, AA72, cc72, ((hF.repl 22 (by kernel_rfl)).cast (by kernel_rfl)), (hM.cast (by kernel_rfl))⟩
                              · intro s0 s1 s2 s3 s4 s5 s6 s7 s8 s9 s10 s11 s12 s13 s14 s15 s16 s17 s18 s19 s20 s21 s22 s23 s24 s25 s26 s27 s28 s29 s30 s31 s32 s33 s34 s35 s36 s37 s38 s39 s40 s41 s42 s43 s44 s45 s46 s47 s48 s49 s50 s51 s52 s53 s54 s55 s56 s57 s58 s59 s60 s61 s62 s63 s64 s65 s66 s67 hc hi hp a w hS
                                obtain rfl : s9 = false := hi
                                obtain rfl : s8 = true := hp 8 (by kernel_rfl)
                                obtain rfl : s7 = true := hp 7 (by kernel_rfl)
                                obtain ⟨bb67, AA68, cc68, bb69, AA70, cc70, bb71, AA72, cc72, hF, hM⟩ := hS
                                refine eP 195 (v0 := .bool (decide (0 = 0))) (v := .bool true) hF (by kernel_rfl) (fun _ => by kernel_rfl) (bT (by omega)) fun a hF => ?_
                                exact ⟨bb67, AA68, cc68, bb69, AA70, cc70, bb71, AA72, cc72, ((hF.repl 23 (by kernel_rfl)).cast (by kernel_rfl)), (hM.cast (by kernel_rfl))⟩
                              · intro s0 s1 s2 s3 s4 s5 s6 s7 s8 s9 s10 s11 s12 s13 s14 s15 s16 s17 s18 s19 s20 s21 s22 s23 s24 s25 s26 s27 s28 s29 s30 s31 s32 s33 s34 s35 s36 s37 s38 s39 s40 s41 s42 s43 s44 s45 s46 s47 s48 s49 s50 s51 s52 s53 s54 s55 s56 s57 s58 s59 s60 s61 s62 s63 s64 s65 s66 s67 hc hi hp a w hS
                                obtain rfl : s10 = false := hi
                                obtain rfl : s9 = true := hp 9 (by kernel_rfl)
                                obtain rfl : s7 = true := hp 7 (by kernel_rfl)
                                obtain ⟨bb67, AA68, cc68, bb69, AA70, cc70, bb71, AA72, cc72, hF, hM⟩ := hS
                                refine eP 196 (v0 := .bool true) (v := .bool true) hF (by kernel_rfl) (fun _ => by kernel_rfl) rfl fun a hF => ?_
                                exact ⟨bb67, AA68, cc68, bb69, AA70, cc70, bb71, AA72, cc72, ((hF.repl 24 (by kernel_rfl)).cast (by kernel_rfl)), (hM.cast (by kernel_rfl))⟩
                              · intro s0 s1 s2 s3 s4 s5 s6 s7 s8 s9 s10 s11 s12 s13 s14 s15 s16 s17 s18 s19 s20 s21 s22 s23 s24 s25 s26 s27 s28 s29 s30 s31 s32 s33 s34 s35 s36 s37 s38 s39 s40 s41 s42 s43 s44 s45 s46 s47 s48 s49 s50 s51 s52 s53 s54 s55 s56 s57 s58 s59 s60 s61 s62 s63 s64 s65 s66 s67 hc hi hp a w hS
                                obtain rfl : s11 = false := hi
                                obtain rfl : s10 = true := hp 10 (by kernel_rfl)
                                obtain ⟨bb67, AA68, cc68, bb69, AA70, cc70, bb71, AA72, cc72, hF, hM⟩ := hS
                                refine eP 197 (v0 := .bool true) (v := .bool true) hF (by kernel_rfl) (fun _ => by kernel_rfl) rfl fun a hF => ?_
                                exact ⟨bb67, AA68, cc68, bb69, AA70, cc70, bb71, AA72, cc72, ((hF.repl 25 (by kernel_rfl)).cast (by kernel_rfl)), (hM.cast (by kernel_rfl))⟩
                              · intro s0 s1 s2 s3 s4 s5 s6 s7 s8 s9 s10 s11 s12 s13 s14 s15 s16 s17 s18 s19 s20 s21 s22 s23 s24 s25 s26 s27 s28 s29 s30 s31 s32 s33 s34 s35 s36 s37 s38 s39 s40 s41 s42 s43 s44 s45 s46 s47 s48 s49 s50 s51 s52 s53 s54 s55 s56 s57 s58 s59 s60 s61 s62 s63 s64 s65 s66 s67 hc hi hp a w hS
                                obtain rfl : s12 = false := hi
                                obtain rfl : s11 = true := hp 11 (by kernel_rfl)
                                obtain ⟨bb67, AA68, cc68, bb69, AA70, cc70, bb71, AA72, cc72, hF, hM⟩ := hS
                                refine eP 198 (v0 := .int .i64 2) (v := .int .i64 2) hF (by kernel_rfl) (fun _ => by kernel_rfl) rfl fun a hF => ?_
                                exact ⟨bb67, AA68, cc68, bb69, AA70, cc70, bb71, AA72, cc72, ((hF.repl 26 (by kernel_rfl)).cast (by kernel_rfl)), (hM.cast (by kernel_rfl))⟩
                              · intro s0 s1 s2 s3 s4 s5 s6 s7 s8 s9 s10 s11 s12 s13 s14 s15 s16 s17 s18 s19 s20 s21 s22 s23 s24 s25 s26 s27 s28 s29 s30 s31 s32 s33 s34 s35 s36 s37 s38 s39 s40 s41 s42 s43 s44 s45 s46 s47 s48 s49 s50 s51 s52 s53 s54 s55 s56 s57 s58 s59 s60 s61 s62 s63 s64 s65 s66 s67 hc hi hp a w hS
                                obtain rfl : s13 = false := hi
                                obtain rfl : s12 = true := hp 12 (by kernel_rfl)
                                obtain rfl : s11 = true := hp 11 (by kernel_rfl)
                                obtain ⟨bb67, AA68, cc68, bb69, AA70, cc70, bb71, AA72, cc72, hF, hM⟩ := hS
                                refine eP 199 (v0 := .bool (decide (2 = 2))) (v := .bool true) hF (by kernel_rfl) (fun _ => by kernel_rfl) (bT (by omega)) fun a hF => ?_
                                exact ⟨bb67, AA68, cc68, bb69, AA70, cc70, bb71, AA72, cc72, ((hF.repl 27 (by kernel_rfl)).cast (by kernel_rfl)), (hM.cast (by kernel_rfl))⟩
                              · intro s0 s1 s2 s3 s4 s5 s6 s7 s8 s9 s10 s11 s12 s13 s14 s15 s16 s17 s18 s19 s20 s21 s22 s23 s24 s25 s26 s27 s28 s29 s30 s31 s32 s33 s34 s35 s36 s37 s38 s39 s40 s41 s42 s43 s44 s45 s46 s47 s48 s49 s50 s51 s52 s53 s54 s55 s56 s57 s58 s59 s60 s61 s62 s63 s64 s65 s66 s67 hc hi hp a w hS
                                obtain rfl : s14 = false := hi
                                obtain rfl : s13 = true := hp 13 (by kernel_rfl)
                                obtain rfl : s11 = true := hp 11 (by kernel_rfl)
                                obtain ⟨bb67, AA68, cc68, bb69, AA70, cc70, bb71, AA72, cc72, hF, hM⟩ := hS
                                refine eP 200 (v0 := .bool true) (v := .bool true) hF (by kernel_rfl) (fun _ => by kernel_rfl) rfl fun a hF => ?_
                                exact ⟨bb67, AA68, cc68, bb69, AA70, cc70, bb71, AA72, cc72, ((hF.repl 28 (by kernel_rfl)).cast (by kernel_rfl)), (hM.cast (by kernel_rfl))⟩
                              · intro s0 s1 s2 s3 s4 s5 s6 s7 s8 s9 s10 s11 s12 s13 s14 s15 s16 s17 s18 s19 s20 s21 s22 s23 s24 s25 s26 s27 s28 s29 s30 s31 s32 s33 s34 s35 s36 s37 s38 s39 s40 s41 s42 s43 s44 s45 s46 s47 s48 s49 s50 s51 s52 s53 s54 s55 s56 s57 s58 s59 s60 s61 s62 s63 s64 s65 s66 s67 hc hi hp a w hS
                                obtain rfl : s15 = false := hi
                                obtain rfl : s14 = true := hp 14 (by kernel_rfl)
                                obtain ⟨bb67, AA68, cc68, bb69, AA70, cc70, bb71, AA72, cc72, hF, hM⟩ := hS
                                refine eP 201 (v0 := .bool true) (v := .bool true) hF (by kernel_rfl) (fun _ => by kernel_rfl) rfl fun a hF => ?_
                                exact ⟨bb67, AA68, cc68, bb69, AA70, cc70, bb71, AA72, cc72, ((hF.repl 29 (by kernel_rfl)).cast (by kernel_rfl)), (hM.cast (by kernel_rfl))⟩
                              · intro s0 s1 s2 s3 s4 s5 s6 s7 s8 s9 s10 s11 s12 s13 s14 s15 s16 s17 s18 s19 s20 s21 s22 s23 s24 s25 s26 s27 s28 s29 s30 s31 s32 s33 s34 s35 s36 s37 s38 s39 s40 s41 s42 s43 s44 s45 s46 s47 s48 s49 s50 s51 s52 s53 s54 s55 s56 s57 s58 s59 s60 s61 s62 s63 s64 s65 s66 s67 hc hi hp a w hS
                                obtain rfl : s16 = false := hi
                                obtain rfl : s15 = true := hp 15 (by kernel_rfl)
                                obtain ⟨bb67, AA68, cc68, bb69, AA70, cc70, bb71, AA72, cc72, hF, hM⟩ := hS
                                refine eP 202 (v0 := .int .i64 2) (v := .int .i64 2) hF (by kernel_rfl) (fun _ => by kernel_rfl) rfl fun a hF => ?_
                                exact ⟨bb67, AA68, cc68, bb69, AA70, cc70, bb71, AA72, cc72, ((hF.repl 30 (by kernel_rfl)).cast (by kernel_rfl)), (hM.cast (by kernel_rfl))⟩
                              · intro s0 s1 s2 s3 s4 s5 s6 s7 s8 s9 s10 s11 s12 s13 s14 s15 s16 s17 s18 s19 s20 s21 s22 s23 s24 s25 s26 s27 s28 s29 s30 s31 s32 s33 s34 s35 s36 s37 s38 s39 s40 s41 s42 s43 s44 s45 s46 s47 s48 s49 s50 s51 s52 s53 s54 s55 s56 s57 s58 s59 s60 s61 s62 s63 s64 s65 s66 s67 hc hi hp a w hS
                                obtain rfl : s17 = false := hi
                                obtain rfl : s16 = true := hp 16 (by kernel_rfl)
                                obtain rfl : s15 = true := hp 15 (by kernel_rfl)
                                obtain ⟨bb67, AA68, cc68, bb69, AA70, cc70, bb71, AA72, cc72, hF, hM⟩ := hS
                                refine eP 203 (v0 := .bool (decide (2 = 2))) (v := .bool true) hF (by kernel_rfl) (fun _ => by kernel_rfl) (bT (by omega)) fun a hF => ?_
                                exact ⟨bb67, AA68, cc68, bb69, AA70, cc70, bb71, AA72, cc72, ((hF.repl 31 (by kernel_rfl)).cast (by kernel_rfl)), (hM.cast (by kernel_rfl))⟩
                              · intro s0 s1 s2 s3 s4 s5 s6 s7 s8 s9 s10 s11 s12 s13 s14 s15 s16 s17 s18 s19 s20 s21 s22 s23 s24 s25 s26 s27 s28 s29 s30 s31 s32 s33 s34 s35 s36 s37 s38 s39 s40 s41 s42 s43 s44 s45 s46 s47 s48 s49 s50 s51 s52 s53 s54 s55 s56 s57 s58 s59 s60 s61 s62 s63 s64 s65 s66 s67 hc hi hp a w hS
                                obtain rfl : s18 = false := hi
                                obtain rfl : s17 = true := hp 17 (by kernel_rfl)
                                obtain rfl : s15 = true := hp 15 (by kernel_rfl)
                                obtain ⟨bb67, AA68, cc68, bb69, AA70, cc70, bb71, AA72, cc72, hF, hM⟩ := hS
                                refine eP 204 (v0 := .bool true) (v := .bool true) hF (by kernel_rfl) (fun _ => by kernel_rfl) rfl fun a hF => ?_
                                exact ⟨bb67, AA68, cc68, bb69, AA70, cc70, bb71, AA72, cc72, ((hF.repl 32 (by kernel_rfl)).cast (by kernel_rfl)), (hM.cast (by kernel_rfl))⟩
                              · intro s0 s1 s2 s3 s4 s5 s6 s7 s8 s9 s10 s11 s12 s13 s14 s15 s16 s17 s18 s19 s20 s21 s22 s23 s24 s25 s26 s27 s28 s29 s30 s31 s32 s33 s34 s35 s36 s37 s38 s39 s40 s41 s42 s43 s44 s45 s46 s47 s48 s49 s50 s51 s52 s53 s54 s55 s56 s57 s58 s59 s60 s61 s62 s63 s64 s65 s66 s67 hc hi hp a w hS
                                obtain rfl : s19 = false := hi
                                obtain rfl : s18 = true := hp 18 (by kernel_rfl)
                                obtain ⟨bb67, AA68, cc68, bb69, AA70, cc70, bb71, AA72, cc72, hF, hM⟩ := hS
                                refine eP 205 (v0 := .bool true) (v := .bool true) hF (by kernel_rfl) (fun _ => by kernel_rfl) rfl fun a hF => ?_
                                exact ⟨bb67, AA68, cc68, bb69, AA70, cc70, bb71, AA72, cc72, ((hF.repl 33 (by kernel_rfl)).cast (by kernel_rfl)), (hM.cast (by kernel_rfl))⟩
                              · intro s0 s1 s2 s3 s4 s5 s6 s7 s8 s9 s10 s11 s12 s13 s14 s15 s16 s17 s18 s19 s20 s21 s22 s23 s24 s25 s26 s27 s28 s29 s30 s31 s32 s33 s34 s35 s36 s37 s38 s39 s40 s41 s42 s43 s44 s45 s46 s47 s48 s49 s50 s51 s52 s53 s54 s55 s56 s57 s58 s59 s60 s61 s62 s63 s64 s65 s66 s67 hc hi hp a w hS
                                obtain rfl : s20 = false := hi
                                obtain rfl : s19 = true := hp 19 (by kernel_rfl)
                                obtain ⟨bb67, AA68, cc68, bb69, AA70, cc70, bb71, AA72, cc72, hF, hM⟩ := hS
                                refine eP 206 (v0 := .int .i64 3) (v := .int .i64 3) hF (by kernel_rfl) (fun _ => by kernel_rfl) rfl fun a hF => ?_
                                exact ⟨bb67, AA68, cc68, bb69, AA70, cc70, bb71, AA72, cc72, ((hF.repl 34 (by kernel_rfl)).cast (by kernel_rfl)), (hM.cast (by kernel_rfl))⟩
                              · intro s0 s1 s2 s3 s4 s5 s6 s7 s8 s9 s10 s11 s12 s13 s14 s15 s16 s17 s18 s19 s20 s21 s22 s23 s24 s25 s26 s27 s28 s29 s30 s31 s32 s33 s34 s35 s36 s37 s38 s39 s40 s41 s42 s43 s44 s45 s46 s47 s48 s49 s50 s51 s52 s53 s54 s55 s56 s57 s58 s59 s60 s61 s62 s63 s64 s65 s66 s67 hc hi hp a w hS
                                obtain rfl : s21 = false := hi
                                obtain rfl : s20 = true := hp 20 (by kernel_rfl)
                                obtain rfl : s19 = true := hp 19 (by kernel_rfl)
                                obtain ⟨bb67, AA68, cc68, bb69, AA70, cc70, bb71, AA72, cc72, hF, hM⟩ := hS
                                refine eP 207 (v0 := .bool (decide (3 = 3))) (v := .bool true) hF (by kernel_rfl) (fun _ => by kernel_rfl) (bT (by omega)) fun a hF => ?_
                                exact ⟨bb67, AA68, cc68, bb69, AA70, cc70, bb71, AA72, cc72, ((hF.repl 35 (by kernel_rfl)).cast (by kernel_rfl)), (hM.cast (by kernel_rfl))⟩
                              · intro s0 s1 s2 s3 s4 s5 s6 s7 s8 s9 s10 s11 s12 s13 s14 s15 s16 s17 s18 s19 s20 s21 s22 s23 s24 s25 s26 s27 s28 s29 s30 s31 s32 s33 s34 s35 s36 s37 s38 s39 s40 s41 s42 s43 s44 s45 s46 s47 s48 s49 s50 s51 s52 s53 s54 s55 s56 s57 s58 s59 s60 s61 s62 s63 s64 s65 s66 s67 hc hi hp a w hS
                                obtain rfl : s22 = false := hi
                                obtain rfl : s21 = true := hp 21 (by kernel_rfl)
                                obtain rfl : s19 = true := hp 19 (by kernel_rfl)
                                obtain ⟨bb67, AA68, cc68, bb69, AA70, cc70, bb71, AA72, cc72, hF, hM⟩ := hS
                                refine eP 208 (v0 := .bool true) (v := .bool true) hF (by kernel_rfl) (fun _ => by kernel_rfl) rfl fun a hF => ?_
                                exact ⟨bb67, AA68, cc68, bb69, AA70, cc70, bb71, AA72, cc72, ((hF.repl 36 (by kernel_rfl)).cast (by kernel_rfl)), (hM.cast (by kernel_rfl))⟩
                              · intro s0 s1 s2 s3 s4 s5 s6 s7 s8 s9 s10 s11 s12 s13 s14 s15 s16 s17 s18 s19 s20 s21 s22 s23 s24 s25 s26 s27 s28 s29 s30 s31 s32 s33 s34 s35 s36 s37 s38 s39 s40 s41 s42 s43 s44 s45 s46 s47 s48 s49 s50 s51 s52 s53 s54 s55 s56 s57 s58 s59 s60 s61 s62 s63 s64 s65 s66 s67 hc hi hp a w hS
                                obtain rfl : s23 = false := hi
                                obtain rfl : s22 = true := hp 22 (by kernel_rfl)
                                obtain ⟨bb67, AA68, cc68, bb69, AA70, cc70, bb71, AA72, cc72, hF, hM⟩ := hS
                                refine eP 209 (v0 := .bool true) (v := .bool true) hF (by kernel_rfl) (fun _ => by kernel_rfl) rfl fun a hF => ?_
                                exact ⟨bb67, AA68, cc68, bb69, AA70, cc70, bb71, AA72, cc72, ((hF.repl 37 (by kernel_rfl)).cast (by kernel_rfl)), (hM.cast (by kernel_rfl))⟩
                              · intro s0 s1 s2 s3 s4 s5 s6 s7 s8 s9 s10 s11 s12 s13 s14 s15 s16 s17 s18 s19 s20 s21 s22 s23 s24 s25 s26 s27 s28 s29 s30 s31 s32 s33 s34 s35 s36 s37 s38 s39 s40 s41 s42 s43 s44 s45 s46 s47 s48 s49 s50 s51 s52 s53 s54 s55 s56 s57 s58 s59 s60 s61 s62 s63 s64 s65 s66 s67 hc hi hp a w hS
                                obtain rfl : s24 = false := hi
                                obtain rfl : s23 = true := hp 23 (by kernel_rfl)
                                obtain ⟨bb67, AA68, cc68, bb69, AA70, cc70, bb71, AA72, cc72, hF, hM⟩ := hS
                                refine eP 210 (v0 := .int .i64 6) (v := .int .i64 6) hF (by kernel_rfl) (fun _ => by kernel_rfl) rfl fun a hF => ?_
                                exact ⟨bb67, AA68, cc68, bb69, AA70, cc70, bb71, AA72, cc72, ((hF.repl 38 (by kernel_rfl)).cast (by kernel_rfl)), (hM.cast (by kernel_rfl))⟩
                              · intro s0 s1 s2 s3 s4 s5 s6 s7 s8 s9 s10 s11 s12 s13 s14 s15 s16 s17 s18 s19 s20 s21 s22 s23 s24 s25 s26 s27 s28 s29 s30 s31 s32 s33 s34 s35 s36 s37 s38 s39 s40 s41 s42 s43 s44 s45 s46 s47 s48 s49 s50 s51 s52 s53 s54 s55 s56 s57 s58 s59 s60 s61 s62 s63 s64 s65 s66 s67 hc hi hp a w hS
                                obtain rfl : s25 = false := hi
                                obtain rfl : s24 = true := hp 24 (by kernel_rfl)
                                obtain rfl : s23 = true := hp 23 (by kernel_rfl)
                                obtain ⟨bb67, AA68, cc68, bb69, AA70, cc70, bb71, AA72, cc72, hF, hM⟩ := hS
                                refine eP 211 (v0 := .bool (decide (6 = 6))) (v := .bool true) hF (by kernel_rfl) (fun _ => by kernel_rfl) (bT (by omega)) fun a hF => ?_
                                exact ⟨bb67, AA68, cc68, bb69, AA70, cc70, bb71, AA72, cc72, ((hF.repl 39 (by kernel_rfl)).cast (by kernel_rfl)), (hM.cast (by kernel_rfl))⟩
                              · intro s0 s1 s2 s3 s4 s5 s6 s7 s8 s9 s10 s11 s12 s13 s14 s15 s16 s17 s18 s19 s20 s21 s22 s23 s24 s25 s26 s27 s28 s29 s30 s31 s32 s33 s34 s35 s36 s37 s38 s39 s40 s41 s42 s43 s44 s45 s46 s47 s48 s49 s50 s51 s52 s53 s54 s55 s56 s57 s58 s59 s60 s61 s62 s63 s64 s65 s66 s67 hc hi hp a w hS
                                obtain rfl : s26 = false := hi
                                obtain rfl : s25 = true := hp 25 (by kernel_rfl)
                                obtain rfl : s23 = true := hp 23 (by kernel_rfl)
                                obtain ⟨bb67, AA68, cc68, bb69, AA70, cc70, bb71, AA72, cc72, hF, hM⟩ := hS
                                refine eP 212 (v0 := .bool true) (v := .bool true) hF (by kernel_rfl) (fun _ => by kernel_rfl) rfl fun a hF => ?_
                                exact ⟨bb67, AA68, cc68, bb69, AA70, cc70, bb71, AA72, cc72, ((hF.repl 40 (by kernel_rfl)).cast (by kernel_rfl)), (hM.cast (by kernel_rfl))⟩
                              · intro s0 s1 s2 s3 s4 s5 s6 s7 s8 s9 s10 s11 s12 s13 s14 s15 s16 s17 s18 s19 s20 s21 s22 s23 s24 s25 s26 s27 s28 s29 s30 s31 s32 s33 s34 s35 s36 s37 s38 s39 s40 s41 s42 s43 s44 s45 s46 s47 s48 s49 s50 s51 s52 s53 s54 s55 s56 s57 s58 s59 s60 s61 s62 s63 s64 s65 s66 s67 hc hi hp a w hS
                                obtain rfl : s27 = false := hi
                                obtain rfl : s26 = true := hp 26 (by kernel_rfl)
                                obtain ⟨bb67, AA68, cc68, bb69, AA70, cc70, bb71, AA72, cc72, hF, hM⟩ := hS
                                refine eP 213 (v0 := .bool true) (v := .bool true) hF (by kernel_rfl) (fun _ => by kernel_rfl) rfl fun a hF => ?_
                                exact ⟨bb67, AA68, cc68, bb69, AA70, cc70, bb71, AA72, cc72, ((hF.repl 41 (by kernel_rfl)).cast (by kernel_rfl)), (hM.cast (by kernel_rfl))⟩
                              · intro s0 s1 s2 s3 s4 s5 s6 s7 s8 s9 s10 s11 s12 s13 s14 s15 s16 s17 s18 s19 s20 s21 s22 s23 s24 s25 s26 s27 s28 s29 s30 s31 s32 s33 s34 s35 s36 s37 s38 s39 s40 s41 s42 s43 s44 s45 s46 s47 s48 s49 s50 s51 s52 s53 s54 s55 s56 s57 s58 s59 s60 s61 s62 s63 s64 s65 s66 s67 hc hi hp a w hS
                                obtain rfl : s28 = false := hi
                                obtain rfl : s27 = true := hp 27 (by kernel_rfl)
                                obtain ⟨bb67, AA68, cc68, bb69, AA70, cc70, bb71, AA72, cc72, hF, hM⟩ := hS
                                refine eL 214 62 0 (v := .agg #[.int .i64 1048576, .int .i64 2097152]) hF hM (by kernel_rfl) rfl rfl (by kernel_rfl) (by kernel_rfl) fun a w hF hM => ?_
                                exact ⟨bb67, AA68, cc68, bb69, AA70, cc70, bb71, AA72, cc72, ((hF.repl 42 (by kernel_rfl)).cast (by kernel_rfl)), (hM.cast (by kernel_rfl))⟩
                              · intro s0 s1 s2 s3 s4 s5 s6 s7 s8 s9 s10 s11 s12 s13 s14 s15 s16 s17 s18 s19 s20 s21 s22 s23 s24 s25 s26 s27 s28 s29 s30 s31 s32 s33 s34 s35 s36 s37 s38 s39 s40 s41 s42 s43 s44 s45 s46 s47 s48 s49 s50 s51 s52 s53 s54 s55 s56 s57 s58 s59 s60 s61 s62 s63 s64 s65 s66 s67 hc hi hp a w hS
                                obtain rfl : s29 = false := hi
                                obtain rfl : s27 = true := hp 27 (by kernel_rfl)
                                obtain ⟨bb67, AA68, cc68, bb69, AA70, cc70, bb71, AA72, cc72, hF, hM⟩ := hS
                                refine eL 215 55 0 (v := .agg #[.int .i64 1048576, .int .i64 2097152]) hF hM (by kernel_rfl) rfl rfl (by kernel_rfl) (by kernel_rfl) fun a w hF hM => ?_
                                exact ⟨bb67, AA68, cc68, bb69, AA70, cc70, bb71, AA72, cc72, ((hF.repl 43 (by kernel_rfl)).cast (by kernel_rfl)), (hM.cast (by kernel_rfl))⟩
                              · intro s0 s1 s2 s3 s4 s5 s6 s7 s8 s9 s10 s11 s12 s13 s14 s15 s16 s17 s18 s19 s20 s21 s22 s23 s24 s25 s26 s27 s28 s29 s30 s31 s32 s33 s34 s35 s36 s37 s38 s39 s40 s41 s42 s43 s44 s45 s46 s47 s48 s49 s50 s51 s52 s53 s54 s55 s56 s57 s58 s59 s60 s61 s62 s63 s64 s65 s66 s67 hc hi hp a w hS
                                obtain rfl : s30 = false := hi
                                obtain rfl : s29 = true := hp 29 (by kernel_rfl)
                                obtain rfl : s28 = true := hp 28 (by kernel_rfl)
                                obtain rfl : s27 = true := hp 27 (by kernel_rfl)
                                obtain ⟨bb67, AA68, cc68, bb69, AA70, cc70, bb71, AA72, cc72, hF, hM⟩ := hS
                                refine eM 216 (v := .bool true) hF hM (by kernel_rfl) ((yld_eql (C := Mem _ _ _) [1048576, 2097152] [1048576, 2097152] hF rfl (by kernel_rfl) (by kernel_rfl) (by kernel_rfl) rfl (by kernel_rfl) (by kernel_rfl) (by kernel_rfl) rfl rfl).to (bT (by decide))) fun a w hF hM => ?_
                                exact ⟨bb67, AA68, cc68, bb69, AA70, cc70, bb71, AA72, cc72, ((hF.repl 44 (by kernel_rfl)).cast (by kernel_rfl)), (hM.cast (by kernel_rfl))⟩
                              · intro s0 s1 s2 s3 s4 s5 s6 s7 s8 s9 s10 s11 s12 s13 s14 s15 s16 s17 s18 s19 s20 s21 s22 s23 s24 s25 s26 s27 s28 s29 s30 s31 s32 s33 s34 s35 s36 s37 s38 s39 s40 s41 s42 s43 s44 s45 s46 s47 s48 s49 s50 s51 s52 s53 s54 s55 s56 s57 s58 s59 s60 s61 s62 s63 s64 s65 s66 s67 hc hi hp a w hS
                                obtain rfl : s31 = false := hi
                                obtain rfl : s30 = true := hp 30 (by kernel_rfl)
                                obtain rfl : s27 = true := hp 27 (by kernel_rfl)
                                obtain ⟨bb67, AA68, cc68, bb69, AA70, cc70, bb71, AA72, cc72, hF, hM⟩ := hS
                                refine eP 217 (v0 := .bool true) (v := .bool true) hF (by kernel_rfl) (fun _ => by kernel_rfl) rfl fun a hF => ?_
                                exact ⟨bb67, AA68, cc68, bb69, AA70, cc70, bb71, AA72, cc72, ((hF.repl 45 (by kernel_rfl)).cast (by kernel_rfl)), (hM.cast (by kernel_rfl))⟩
                              · intro s0 s1 s2 s3 s4 s5 s6 s7 s8 s9 s10 s11 s12 s13 s14 s15 s16 s17 s18 s19 s20 s21 s22 s23 s24 s25 s26 s27 s28 s29 s30 s31 s32 s33 s34 s35 s36 s37 s38 s39 s40 s41 s42 s43 s44 s45 s46 s47 s48 s49 s50 s51 s52 s53 s54 s55 s56 s57 s58 s59 s60 s61 s62 s63 s64 s65 s66 s67 hc hi hp a w hS
                                obtain rfl : s32 = false := hi
                                obtain rfl : s31 = true := hp 31 (by kernel_rfl)
                                obtain ⟨bb67, AA68, cc68, bb69, AA70, cc70, bb71, AA72, cc72, hF, hM⟩ := hS
                                refine eP 218 (v0 := .bool true) (v := .bool true) hF (by kernel_rfl) (fun _ => by kernel_rfl) rfl fun a hF => ?_
                                exact ⟨bb67, AA68, cc68, bb69, AA70, cc70, bb71, AA72, cc72, ((hF.repl 46 (by kernel_rfl)).cast (by kernel_rfl)), (hM.cast (by kernel_rfl))⟩
                              · intro s0 s1 s2 s3 s4 s5 s6 s7 s8 s9 s10 s11 s12 s13 s14 s15 s16 s17 s18 s19 s20 s21 s22 s23 s24 s25 s26 s27 s28 s29 s30 s31 s32 s33 s34 s35 s36 s37 s38 s39 s40 s41 s42 s43 s44 s45 s46 s47 s48 s49 s50 s51 s52 s53 s54 s55 s56 s57 s58 s59 s60 s61 s62 s63 s64 s65 s66 s67 hc hi hp a w hS
                                obtain rfl : s33 = false := hi
                                obtain rfl : s32 = true := hp 32 (by kernel_rfl)
                                obtain ⟨bb67, AA68, cc68, bb69, AA70, cc70, bb71, AA72, cc72, hF, hM⟩ := hS
                                refine eP 219 (v0 := .int .i64 0) (v := .int .i64 0) hF (by kernel_rfl) (fun _ => by kernel_rfl) rfl fun a hF => ?_
                                exact ⟨bb67, AA68, cc68, bb69, AA70, cc70, bb71, AA72, cc72, ((hF.repl 47 (by kernel_rfl)).cast (by kernel_rfl)), (hM.cast (by kernel_rfl))⟩
                              · intro s0 s1 s2 s3 s4 s5 s6 s7 s8 s9 s10 s11 s12 s13 s14 s15 s16 s17 s18 s19 s20 s21 s22 s23 s24 s25 s26 s27 s28 s29 s30 s31 s32 s33 s34 s35 s36 s37 s38 s39 s40 s41 s42 s43 s44 s45 s46 s47 s48 s49 s50 s51 s52 s53 s54 s55 s56 s57 s58 s59 s60 s61 s62 s63 s64 s65 s66 s67 hc hi hp a w hS
                                obtain rfl : s34 = false := hi
                                obtain rfl : s33 = true := hp 33 (by kernel_rfl)
                                obtain rfl : s32 = true := hp 32 (by kernel_rfl)
                                obtain ⟨bb67, AA68, cc68, bb69, AA70, cc70, bb71, AA72, cc72, hF, hM⟩ := hS
                                refine eP 220 (v0 := .bool (decide (0 = 0))) (v := .bool true) hF (by kernel_rfl) (fun _ => by kernel_rfl) (bT (by omega)) fun a hF => ?_
                                exact ⟨bb67, AA68, cc68, bb69, AA70, cc70, bb71, AA72, cc72, ((hF.repl 48 (by kernel_rfl)).cast (by kernel_rfl)), (hM.cast (by kernel_rfl))⟩
                              · intro s0 s1 s2 s3 s4 s5 s6 s7 s8 s9 s10 s11 s12 s13 s14 s15 s16 s17 s18 s19 s20 s21 s22 s23 s24 s25 s26 s27 s28 s29 s30 s31 s32 s33 s34 s35 s36 s37 s38 s39 s40 s41 s42 s43 s44 s45 s46 s47 s48 s49 s50 s51 s52 s53 s54 s55 s56 s57 s58 s59 s60 s61 s62 s63 s64 s65 s66 s67 hc hi hp a w hS
                                obtain rfl : s35 = false := hi
                                obtain rfl : s34 = true := hp 34 (by kernel_rfl)
                                obtain rfl : s32 = true := hp 32 (by kernel_rfl)
                                obtain ⟨bb67, AA68, cc68, bb69, AA70, cc70, bb71, AA72, cc72, hF, hM⟩ := hS
                                refine eP 221 (v0 := .bool true) (v := .bool true) hF (by kernel_rfl) (fun _ => by kernel_rfl) rfl fun a hF => ?_
                                exact ⟨bb67, AA68, cc68, bb69, AA70, cc70, bb71, AA72, cc72, ((hF.repl 49 (by kernel_rfl)).cast (by kernel_rfl)), (hM.cast (by kernel_rfl))⟩
                              · intro s0 s1 s2 s3 s4 s5 s6 s7 s8 s9 s10 s11 s12 s13 s14 s15 s16 s17 s18 s19 s20 s21 s22 s23 s24 s25 s26 s27 s28 s29 s30 s31 s32 s33 s34 s35 s36 s37 s38 s39 s40 s41 s42 s43 s44 s45 s46 s47 s48 s49 s50 s51 s52 s53 s54 s55 s56 s57 s58 s59 s60 s61 s62 s63 s64 s65 s66 s67 hc hi hp a w hS
                                obtain rfl : s36 = false := hi
                                obtain rfl : s35 = true := hp 35 (by kernel_rfl)
                                obtain ⟨bb67, AA68, cc68, bb69, AA70, cc70, bb71, AA72, cc72, hF, hM⟩ := hS
                                refine eP 222 (v0 := .bool true) (v := .bool true) hF (by kernel_rfl) (fun _ => by kernel_rfl) rfl fun a hF => ?_
                                exact ⟨bb67, AA68, cc68, bb69, AA70, cc70, bb71, AA72, cc72, ((hF.repl 50 (by kernel_rfl)).cast (by kernel_rfl)), (hM.cast (by kernel_rfl))⟩
                              · intro s0 s1 s2 s3 s4 s5 s6 s7 s8 s9 s10 s11 s12 s13 s14 s15 s16 s17 s18 s19 s20 s21 s22 s23 s24 s25 s26 s27 s28 s29 s30 s31 s32 s33 s34 s35 s36 s37 s38 s39 s40 s41 s42 s43 s44 s45 s46 s47 s48 s49 s50 s51 s52 s53 s54 s55 s56 s57 s58 s59 s60 s61 s62 s63 s64 s65 s66 s67 hc hi hp a w hS
                                obtain rfl : s37 = false := hi
                                obtain rfl : s36 = true := hp 36 (by kernel_rfl)
                                obtain ⟨bb67, AA68, cc68, bb69, AA70, cc70, bb71, AA72, cc72, hF, hM⟩ := hS
                                refine eP 223 (v0 := .int .i64 6) (v := .int .i64 6) hF (by kernel_rfl) (fun _ => by kernel_rfl) rfl fun a hF => ?_
                                exact ⟨bb67, AA68, cc68, bb69, AA70, cc70, bb71, AA72, cc72, ((hF.repl 51 (by kernel_rfl)).cast (by kernel_rfl)), (hM.cast (by kernel_rfl))⟩
                              · intro s0 s1 s2 s3 s4 s5 s6 s7 s8 s9 s10 s11 s12 s13 s14 s15 s16 s17 s18 s19 s20 s21 s22 s23 s24 s25 s26 s27 s28 s29 s30 s31 s32 s33 s34 s35 s36 s37 s38 s39 s40 s41 s42 s43 s44 s45 s46 s47 s48 s49 s50 s51 s52 s53 s54 s55 s56 s57 s58 s59 s60 s61 s62 s63 s64 s65 s66 s67 hc hi hp a w hS
                                obtain rfl : s38 = false := hi
                                obtain rfl : s37 = true := hp 37 (by kernel_rfl)
                                obtain rfl : s36 = true := hp 36 (by kernel_rfl)
                                obtain ⟨bb67, AA68, cc68, bb69, AA70, cc70, bb71, AA72, cc72, hF, hM⟩ := hS
                                refine eP 224 (v0 := .bool (decide (6 = 6))) (v := .bool true) hF (by kernel_rfl) (fun _ => by kernel_rfl) (bT (by omega)) fun a hF => ?_
                                exact ⟨bb67, AA68, cc68, bb69, AA70, cc70, bb71, AA72, cc72, ((hF.repl 52 (by kernel_rfl)).cast (by kernel_rfl)), (hM.cast (by kernel_rfl))⟩
                              · intro s0 s1 s2 s3 s4 s5 s6 s7 s8 s9 s10 s11 s12 s13 s14 s15 s16 s17 s18 s19 s20 s21 s22 s23 s24 s25 s26 s27 s28 s29 s30 s31 s32 s33 s34 s35 s36 s37 s38 s39 s40 s41 s42 s43 s44 s45 s46 s47 s48 s49 s50 s51 s52 s53 s54 s55 s56 s57 s58 s59 s60 s61 s62 s63 s64 s65 s66 s67 hc hi hp a w hS
                                obtain rfl : s39 = false := hi
                                obtain rfl : s38 = true := hp 38 (by kernel_rfl)
                                obtain rfl : s36 = true := hp 36 (by kernel_rfl)
                                obtain ⟨bb67, AA68, cc68, bb69, AA70, cc70, bb71, AA72, cc72, hF, hM⟩ := hS
                                refine eP 225 (v0 := .bool true) (v := .bool true) hF (by kernel_rfl) (fun _ => by kernel_rfl) rfl fun a hF => ?_
                                exact ⟨bb67, AA68, cc68, bb69, AA70, cc70, bb71, AA72, cc72, ((hF.repl 53 (by kernel_rfl)).cast (by kernel_rfl)), (hM.cast (by kernel_rfl))⟩
                              · intro s0 s1 s2 s3 s4 s5 s6 s7 s8 s9 s10 s11 s12 s13 s14 s15 s16 s17 s18 s19 s20 s21 s22 s23 s24 s25 s26 s27 s28 s29 s30 s31 s32 s33 s34 s35 s36 s37 s38 s39 s40 s41 s42 s43 s44 s45 s46 s47 s48 s49 s50 s51 s52 s53 s54 s55 s56 s57 s58 s59 s60 s61 s62 s63 s64 s65 s66 s67 hc hi hp a w hS
                                obtain rfl : s40 = false := hi
                                obtain rfl : s39 = true := hp 39 (by kernel_rfl)
                                obtain ⟨bb67, AA68, cc68, bb69, AA70, cc70, bb71, AA72, cc72, hF, hM⟩ := hS
                                refine eP 226 (v0 := .bool true) (v := .bool true) hF (by kernel_rfl) (fun _ => by kernel_rfl) rfl fun a hF => ?_
                                exact ⟨bb67, AA68, cc68, bb69, AA70, cc70, bb71, AA72, cc72, ((hF.repl 54 (by kernel_rfl)).cast (by kernel_rfl)), (hM.cast (by kernel_rfl))⟩
                              · intro s0 s1 s2 s3 s4 s5 s6 s7 s8 s9 s10 s11 s12 s13 s14 s15 s16 s17 s18 s19 s20 s21 s22 s23 s24 s25 s26 s27 s28 s29 s30 s31 s32 s33 s34 s35 s36 s37 s38 s39 s40 s41 s42 s43 s44 s45 s46 s47 s48 s49 s50 s51 s52 s53 s54 s55 s56 s57 s58 s59 s60 s61 s62 s63 s64 s65 s66 s67 hc hi hp a w hS
                                obtain rfl : s41 = false := hi
                                obtain rfl : s40 = true := hp 40 (by kernel_rfl)
                                obtain ⟨bb67, AA68, cc68, bb69, AA70, cc70, bb71, AA72, cc72, hF, hM⟩ := hS
                                refine eP 227 (v0 := .int .i64 9) (v := .int .i64 9) hF (by kernel_rfl) (fun _ => by kernel_rfl) rfl fun a hF => ?_
                                exact ⟨bb67, AA68, cc68, bb69, AA70, cc70, bb71, AA72, cc72, ((hF.repl 55 (by kernel_rfl)).cast (by kernel_rfl)), (hM.cast (by kernel_rfl))⟩
                              · intro s0 s1 s2 s3 s4 s5 s6 s7 s8 s9 s10 s11 s12 s13 s14 s15 s16 s17 s18 s19 s20 s21 s22 s23 s24 s25 s26 s27 s28 s29 s30 s31 s32 s33 s34 s35 s36 s37 s38 s39 s40 s41 s42 s43 s44 s45 s46 s47 s48 s49 s50 s51 s52 s53 s54 s55 s56 s57 s58 s59 s60 s61 s62 s63 s64 s65 s66 s67 hc hi hp a w hS
                                obtain rfl : s42 = false := hi
                                obtain rfl : s41 = true := hp 41 (by kernel_rfl)
                                obtain rfl : s40 = true := hp 40 (by kernel_rfl)
                                obtain ⟨bb67, AA68, cc68, bb69, AA70, cc70, bb71, AA72, cc72, hF, hM⟩ := hS
                                refine eP 228 (v0 := .bool (decide (9 = 9))) (v := .bool true) hF (by kernel_rfl) (fun _ => by kernel_rfl) (bT (by omega)) fun a hF => ?_
                                exact ⟨bb67, AA68, cc68, bb69, AA70, cc70, bb71, AA72, cc72, ((hF.repl 56 (by kernel_rfl)).cast (by kernel_rfl)), (hM.cast (by kernel_rfl))⟩
                              · intro s0 s1 s2 s3 s4 s5 s6 s7 s8 s9 s10 s11 s12 s13 s14 s15 s16 s17 s18 s19 s20 s21 s22 s23 s24 s25 s26 s27 s28 s29 s30 s31 s32 s33 s34 s35 s36 s37 s38 s39 s40 s41 s42 s43 s44 s45 s46 s47 s48 s49 s50 s51 s52 s53 s54 s55 s56 s57 s58 s59 s60 s61 s62 s63 s64 s65 s66 s67 hc hi hp a w hS
                                obtain rfl : s43 = false := hi
                                obtain rfl : s42 = true := hp 42 (by kernel_rfl)
                                obtain rfl : s40 = true := hp 40 (by kernel_rfl)
                                obtain ⟨bb67, AA68, cc68, bb69, AA70, cc70, bb71, AA72, cc72, hF, hM⟩ := hS
                                refine eP 229 (v0 := .bool true) (v := .bool true) hF (by kernel_rfl) (fun _ => by kernel_rfl) rfl fun a hF => ?_
                                exact ⟨bb67, AA68, cc68, bb69, AA70, cc70, bb71, AA72, cc72, ((hF.repl 57 (by kernel_rfl)).cast (by kernel_rfl)), (hM.cast (by kernel_rfl))⟩
                              · intro s0 s1 s2 s3 s4 s5 s6 s7 s8 s9 s10 s11 s12 s13 s14 s15 s16 s17 s18 s19 s20 s21 s22 s23 s24 s25 s26 s27 s28 s29 s30 s31 s32 s33 s34 s35 s36 s37 s38 s39 s40 s41 s42 s43 s44 s45 s46 s47 s48 s49 s50 s51 s52 s53 s54 s55 s56 s57 s58 s59 s60 s61 s62 s63 s64 s65 s66 s67 hc hi hp a w hS
                                obtain rfl : s44 = false := hi
                                obtain rfl : s43 = true := hp 43 (by kernel_rfl)
                                obtain ⟨bb67, AA68, cc68, bb69, AA70, cc70, bb71, AA72, cc72, hF, hM⟩ := hS
                                refine eP 230 (v0 := .bool true) (v := .bool true) hF (by kernel_rfl) (fun _ => by kernel_rfl) rfl fun a hF => ?_
                                exact ⟨bb67, AA68, cc68, bb69, AA70, cc70, bb71, AA72, cc72, ((hF.repl 58 (by kernel_rfl)).cast (by kernel_rfl)), (hM.cast (by kernel_rfl))⟩
                              · intro s0 s1 s2 s3 s4 s5 s6 s7 s8 s9 s10 s11 s12 s13 s14 s15 s16 s17 s18 s19 s20 s21 s22 s23 s24 s25 s26 s27 s28 s29 s30 s31 s32 s33 s34 s35 s36 s37 s38 s39 s40 s41 s42 s43 s44 s45 s46 s47 s48 s49 s50 s51 s52 s53 s54 s55 s56 s57 s58 s59 s60 s61 s62 s63 s64 s65 s66 s67 hc hi hp a w hS
                                obtain rfl : s45 = false := hi
                                obtain rfl : s44 = true := hp 44 (by kernel_rfl)
                                obtain ⟨bb67, AA68, cc68, bb69, AA70, cc70, bb71, AA72, cc72, hF, hM⟩ := hS
                                refine eP 231 (v0 := .int .i64 0) (v := .int .i64 0) hF (by kernel_rfl) (fun _ => by kernel_rfl) rfl fun a hF => ?_
                                exact ⟨bb67, AA68, cc68, bb69, AA70, cc70, bb71, AA72, cc72, ((hF.repl 59 (by kernel_rfl)).cast (by kernel_rfl)), (hM.cast (by kernel_rfl))⟩
                              · intro s0 s1 s2 s3 s4 s5 s6 s7 s8 s9 s10 s11 s12 s13 s14 s15 s16 s17 s18 s19 s20 s21 s22 s23 s24 s25 s26 s27 s28 s29 s30 s31 s32 s33 s34 s35 s36 s37 s38 s39 s40 s41 s42 s43 s44 s45 s46 s47 s48 s49 s50 s51 s52 s53 s54 s55 s56 s57 s58 s59 s60 s61 s62 s63 s64 s65 s66 s67 hc hi hp a w hS
                                obtain rfl : s46 = false := hi
                                obtain rfl : s45 = true := hp 45 (by kernel_rfl)
                                obtain rfl : s44 = true := hp 44 (by kernel_rfl)
                                obtain ⟨bb67, AA68, cc68, bb69, AA70, cc70, bb71, AA72, cc72, hF, hM⟩ := hS
                                refine eP 232 (v0 := .bool (decide (0 = 0))) (v := .bool true) hF (by kernel_rfl) (fun _ => by kernel_rfl) (bT (by omega)) fun a hF => ?_
                                exact ⟨bb67, AA68, cc68, bb69, AA70, cc70, bb71, AA72, cc72, ((hF.repl 60 (by kernel_rfl)).cast (by kernel_rfl)), (hM.cast (by kernel_rfl))⟩
                              · intro s0 s1 s2 s3 s4 s5 s6 s7 s8 s9 s10 s11 s12 s13 s14 s15 s16 s17 s18 s19 s20 s21 s22 s23 s24 s25 s26 s27 s28 s29 s30 s31 s32 s33 s34 s35 s36 s37 s38 s39 s40 s41 s42 s43 s44 s45 s46 s47 s48 s49 s50 s51 s52 s53 s54 s55 s56 s57 s58 s59 s60 s61 s62 s63 s64 s65 s66 s67 hc hi hp a w hS
                                obtain rfl : s47 = false := hi
                                obtain rfl : s46 = true := hp 46 (by kernel_rfl)
                                obtain rfl : s44 = true := hp 44 (by kernel_rfl)
                                obtain ⟨bb67, AA68, cc68, bb69, AA70, cc70, bb71, AA72, cc72, hF, hM⟩ := hS
                                refine eP 233 (v0 := .bool true) (v := .bool true) hF (by kernel_rfl) (fun _ => by kernel_rfl) rfl fun a hF => ?_
                                exact ⟨bb67, AA68, cc68, bb69, AA70, cc70, bb71, AA72, cc72, ((hF.repl 61 (by kernel_rfl)).cast (by kernel_rfl)), (hM.cast (by kernel_rfl))⟩
                              · intro s0 s1 s2 s3 s4 s5 s6 s7 s8 s9 s10 s11 s12 s13 s14 s15 s16 s17 s18 s19 s20 s21 s22 s23 s24 s25 s26 s27 s28 s29 s30 s31 s32 s33 s34 s35 s36 s37 s38 s39 s40 s41 s42 s43 s44 s45 s46 s47 s48 s49 s50 s51 s52 s53 s54 s55 s56 s57 s58 s59 s60 s61 s62 s63 s64 s65 s66 s67 hc hi hp a w hS
                                obtain rfl : s48 = false := hi
                                obtain rfl : s47 = true := hp 47 (by kernel_rfl)
                                obtain ⟨bb67, AA68, cc68, bb69, AA70, cc70, bb71, AA72, cc72, hF, hM⟩ := hS
                                refine eP 234 (v0 := .bool true) (v := .bool true) hF (by kernel_rfl) (fun _ => by kernel_rfl) rfl fun a hF => ?_
                                exact ⟨bb67, AA68, cc68, bb69, AA70, cc70, bb71, AA72, cc72, ((hF.repl 62 (by kernel_rfl)).cast (by kernel_rfl)), (hM.cast (by kernel_rfl))⟩
                              · intro s0 s1 s2 s3 s4 s5 s6 s7 s8 s9 s10 s11 s12 s13 s14 s15 s16 s17 s18 s19 s20 s21 s22 s23 s24 s25 s26 s27 s28 s29 s30 s31 s32 s33 s34 s35 s36 s37 s38 s39 s40 s41 s42 s43 s44 s45 s46 s47 s48 s49 s50 s51 s52 s53 s54 s55 s56 s57 s58 s59 s60 s61 s62 s63 s64 s65 s66 s67 hc hi hp a w hS
                                obtain rfl : s49 = false := hi
                                obtain rfl : s48 = true := hp 48 (by kernel_rfl)
                                obtain ⟨bb67, AA68, cc68, bb69, AA70, cc70, bb71, AA72, cc72, hF, hM⟩ := hS
                                refine eL 235 55 0 (v := .agg #[.int .i64 1048576, .int .i64 2097152]) hF hM (by kernel_rfl) rfl rfl (by kernel_rfl) (by kernel_rfl) fun a w hF hM => ?_
                                exact ⟨bb67, AA68, cc68, bb69, AA70, cc70, bb71, AA72, cc72, ((hF.repl 63 (by kernel_rfl)).cast (by kernel_rfl)), (hM.cast (by kernel_rfl))⟩
                              · intro s0 s1 s2 s3 s4 s5 s6 s7 s8 s9 s10 s11 s12 s13 s14 s15 s16 s17 s18 s19 s20 s21 s22 s23 s24 s25 s26 s27 s28 s29 s30 s31 s32 s33 s34 s35 s36 s37 s38 s39 s40 s41 s42 s43 s44 s45 s46 s47 s48 s49 s50 s51 s52 s53 s54 s55 s56 s57 s58 s59 s60 s61 s62 s63 s64 s65 s66 s67 hc hi hp a w hS
                                obtain rfl : s50 = false := hi
                                obtain rfl : s48 = true := hp 48 (by kernel_rfl)
                                obtain ⟨bb67, AA68, cc68, bb69, AA70, cc70, bb71, AA72, cc72, hF, hM⟩ := hS
                                refine eN 236 67 (t := 3) (fun b => .slice (some ⟨b, 0, none⟩) 4 4) #[.int .i64 0, .int .i64 1048576, .int .i64 549755813888, .int .i64 1048576] hF hM (by kernel_rfl) (fun _ => by kernel_rfl) fun bb67 a w hF hM => ?_
                                exact ⟨bb67, AA68, cc68, bb69, AA70, cc70, bb71, AA72, cc72, ((hF.repl 64 (by kernel_rfl)).cast (by kernel_rfl)), ((hM.repl 3 (by kernel_rfl)).cast (by kernel_rfl))⟩
                              · intro s0 s1 s2 s3 s4 s5 s6 s7 s8 s9 s10 s11 s12 s13 s14 s15 s16 s17 s18 s19 s20 s21 s22 s23 s24 s25 s26 s27 s28 s29 s30 s31 s32 s33 s34 s35 s36 s37 s38 s39 s40 s41 s42 s43 s44 s45 s46 s47 s48 s49 s50 s51 s52 s53 s54 s55 s56 s57 s58 s59 s60 s61 s62 s63 s64 s65 s66 s67 hc hi hp a w hS
                                obtain rfl : s51 = false := hi
                                obtain rfl : s50 = true := hp 50 (by kernel_rfl)
                                obtain rfl : s48 = true := hp 48 (by kernel_rfl)
                                obtain ⟨bb67, AA68, cc68, bb69, AA70, cc70, bb71, AA72, cc72, hF, hM⟩ := hS
                                refine sOwn 68 (f := 31) (args := #[.slice (some ⟨bb67, 0, none⟩) 4 4]) (mk := fun v => v) (e := 30) (size := 2) (m := 2) (xs := (flat2 ([(0, 1048576), (549755813888, 1048576)]))) hF hM (by kernel_rfl) rfl (by decide) (by kernel_rfl) (fun _ => by kernel_rfl) (trace_w (some ⟨bb67, 0, none⟩) [0, 1048576, 549755813888, 1048576] 4 w (hM.roRow (k := 67) rfl) (by decide)) fun AA68 cc68 a w hF hM => ?_
                                exact ⟨bb67, AA68, cc68, bb69, AA70, cc70, bb71, AA72, cc72, ((hF.repl 65 (by kernel_rfl)).cast (by kernel_rfl)), ((hM.repl 4 (by kernel_rfl)).cast (by kernel_rfl))⟩
                              · intro s0 s1 s2 s3 s4 s5 s6 s7 s8 s9 s10 s11 s12 s13 s14 s15 s16 s17 s18 s19 s20 s21 s22 s23 s24 s25 s26 s27 s28 s29 s30 s31 s32 s33 s34 s35 s36 s37 s38 s39 s40 s41 s42 s43 s44 s45 s46 s47 s48 s49 s50 s51 s52 s53 s54 s55 s56 s57 s58 s59 s60 s61 s62 s63 s64 s65 s66 s67 hc hi hp a w hS
                                obtain rfl : s52 = false := hi
                                obtain rfl : s51 = true := hp 51 (by kernel_rfl)
                                obtain rfl : s49 = true := hp 49 (by kernel_rfl)
                                obtain rfl : s48 = true := hp 48 (by kernel_rfl)
                                obtain ⟨bb67, AA68, cc68, bb69, AA70, cc70, bb71, AA72, cc72, hF, hM⟩ := hS
                                refine eM 238 (v := .bool true) hF hM (by kernel_rfl) (Yld.to (yld_call (f := 30) (args := #[.agg #[.int .i64 1048576, .int .i64 2097152], .slice AA68 2 cc68]) hF (by kernel_rfl) (fun _ => by kernel_rfl) (fun w hM => fits3_w 1048576 2097152 AA68 ([(0, 1048576), (549755813888, 1048576)]) _ w (ro_of_own (hM.ok 68 _ rfl)))) (by kernel_rfl)) fun a w hF hM => ?_
                                exact ⟨bb67, AA68, cc68, bb69, AA70, cc70, bb71, AA72, cc72, ((hF.repl 66 (by kernel_rfl)).cast (by kernel_rfl)), (hM.cast (by kernel_rfl))⟩
                              · intro s0 s1 s2 s3 s4 s5 s6 s7 s8 s9 s10 s11 s12 s13 s14 s15 s16 s17 s18 s19 s20 s21 s22 s23 s24 s25 s26 s27 s28 s29 s30 s31 s32 s33 s34 s35 s36 s37 s38 s39 s40 s41 s42 s43 s44 s45 s46 s47 s48 s49 s50 s51 s52 s53 s54 s55 s56 s57 s58 s59 s60 s61 s62 s63 s64 s65 s66 s67 hc hi hp a w hS
                                obtain rfl : s53 = false := hi
                                obtain rfl : s52 = true := hp 52 (by kernel_rfl)
                                obtain rfl : s48 = true := hp 48 (by kernel_rfl)
                                obtain ⟨bb67, AA68, cc68, bb69, AA70, cc70, bb71, AA72, cc72, hF, hM⟩ := hS
                                refine eP 239 (v0 := .bool true) (v := .bool true) hF (by kernel_rfl) (fun _ => by kernel_rfl) rfl fun a hF => ?_
                                exact ⟨bb67, AA68, cc68, bb69, AA70, cc70, bb71, AA72, cc72, ((hF.repl 67 (by kernel_rfl)).cast (by kernel_rfl)), (hM.cast (by kernel_rfl))⟩
                              · intro s0 s1 s2 s3 s4 s5 s6 s7 s8 s9 s10 s11 s12 s13 s14 s15 s16 s17 s18 s19 s20 s21 s22 s23 s24 s25 s26 s27 s28 s29 s30 s31 s32 s33 s34 s35 s36 s37 s38 s39 s40 s41 s42 s43 s44 s45 s46 s47 s48 s49 s50 s51 s52 s53 s54 s55 s56 s57 s58 s59 s60 s61 s62 s63 s64 s65 s66 s67 hc hi hp a w hS
                                obtain rfl : s54 = false := hi
                                obtain rfl : s53 = true := hp 53 (by kernel_rfl)
                                obtain ⟨bb67, AA68, cc68, bb69, AA70, cc70, bb71, AA72, cc72, hF, hM⟩ := hS
                                refine eP 240 (v0 := .bool true) (v := .bool true) hF (by kernel_rfl) (fun _ => by kernel_rfl) rfl fun a hF => ?_
                                exact ⟨bb67, AA68, cc68, bb69, AA70, cc70, bb71, AA72, cc72, ((hF.repl 68 (by kernel_rfl)).cast (by kernel_rfl)), (hM.cast (by kernel_rfl))⟩
                              · intro s0 s1 s2 s3 s4 s5 s6 s7 s8 s9 s10 s11 s12 s13 s14 s15 s16 s17 s18 s19 s20 s21 s22 s23 s24 s25 s26 s27 s28 s29 s30 s31 s32 s33 s34 s35 s36 s37 s38 s39 s40 s41 s42 s43 s44 s45 s46 s47 s48 s49 s50 s51 s52 s53 s54 s55 s56 s57 s58 s59 s60 s61 s62 s63 s64 s65 s66 s67 hc hi hp a w hS
                                obtain rfl : s55 = false := hi
                                obtain rfl : s54 = true := hp 54 (by kernel_rfl)
                                obtain ⟨bb67, AA68, cc68, bb69, AA70, cc70, bb71, AA72, cc72, hF, hM⟩ := hS
                                refine eL 241 1 0 (v := .agg #[.int .i64 1, .int .i64 1]) hF hM (by kernel_rfl) rfl rfl (by kernel_rfl) (by kernel_rfl) fun a w hF hM => ?_
                                exact ⟨bb67, AA68, cc68, bb69, AA70, cc70, bb71, AA72, cc72, ((hF.repl 69 (by kernel_rfl)).cast (by kernel_rfl)), (hM.cast (by kernel_rfl))⟩
                              · intro s0 s1 s2 s3 s4 s5 s6 s7 s8 s9 s10 s11 s12 s13 s14 s15 s16 s17 s18 s19 s20 s21 s22 s23 s24 s25 s26 s27 s28 s29 s30 s31 s32 s33 s34 s35 s36 s37 s38 s39 s40 s41 s42 s43 s44 s45 s46 s47 s48 s49 s50 s51 s52 s53 s54 s55 s56 s57 s58 s59 s60 s61 s62 s63 s64 s65 s66 s67 hc hi hp a w hS
                                obtain rfl : s56 = false := hi
                                obtain rfl : s54 = true := hp 54 (by kernel_rfl)
                                obtain ⟨bb67, AA68, cc68, bb69, AA70, cc70, bb71, AA72, cc72, hF, hM⟩ := hS
                                refine eN 242 69 (t := 3) (fun b => .slice (some ⟨b, 0, none⟩) 4 4) #[.int .i64 0, .int .i64 1, .int .i64 1048575, .int .i64 1] hF hM (by kernel_rfl) (fun _ => by kernel_rfl) fun bb69 a w hF hM => ?_
                                exact ⟨bb67, AA68, cc68, bb69, AA70, cc70, bb71, AA72, cc72, ((hF.repl 70 (by kernel_rfl)).cast (by kernel_rfl)), ((hM.repl 5 (by kernel_rfl)).cast (by kernel_rfl))⟩
                              · intro s0 s1 s2 s3 s4 s5 s6 s7 s8 s9 s10 s11 s12 s13 s14 s15 s16 s17 s18 s19 s20 s21 s22 s23 s24 s25 s26 s27 s28 s29 s30 s31 s32 s33 s34 s35 s36 s37 s38 s39 s40 s41 s42 s43 s44 s45 s46 s47 s48 s49 s50 s51 s52 s53 s54 s55 s56 s57 s58 s59 s60 s61 s62 s63 s64 s65 s66 s67 hc hi hp a w hS
                                obtain rfl : s57 = false := hi
                                obtain rfl : s56 = true := hp 56 (by kernel_rfl)
                                obtain rfl : s54 = true := hp 54 (by kernel_rfl)
                                obtain ⟨bb67, AA68, cc68, bb69, AA70, cc70, bb71, AA72, cc72, hF, hM⟩ := hS
                                refine sOwn 70 (f := 31) (args := #[.slice (some ⟨bb69, 0, none⟩) 4 4]) (mk := fun v => v) (e := 30) (size := 2) (m := 2) (xs := (flat2 ([(0, 1), (1048575, 1)]))) hF hM (by kernel_rfl) rfl (by decide) (by kernel_rfl) (fun _ => by kernel_rfl) (trace_w (some ⟨bb69, 0, none⟩) [0, 1, 1048575, 1] 4 w (hM.roRow (k := 69) rfl) (by decide)) fun AA70 cc70 a w hF hM => ?_
                                exact ⟨bb67, AA68, cc68, bb69, AA70, cc70, bb71, AA72, cc72, ((hF.repl 71 (by kernel_rfl)).cast (by kernel_rfl)), ((hM.repl 6 (by kernel_rfl)).cast (by kernel_rfl))⟩
                              · intro s0 s1 s2 s3 s4 s5 s6 s7 s8 s9 s10 s11 s12 s13 s14 s15 s16 s17 s18 s19 s20 s21 s22 s23 s24 s25 s26 s27 s28 s29 s30 s31 s32 s33 s34 s35 s36 s37 s38 s39 s40 s41 s42 s43 s44 s45 s46 s47 s48 s49 s50 s51 s52 s53 s54 s55 s56 s57 s58 s59 s60 s61 s62 s63 s64 s65 s66 s67 hc hi hp a w hS
                                obtain rfl : s58 = false := hi
                                obtain rfl : s57 = true := hp 57 (by kernel_rfl)
                                obtain rfl : s55 = true := hp 55 (by kernel_rfl)
                                obtain rfl : s54 = true := hp 54 (by kernel_rfl)
                                obtain ⟨bb67, AA68, cc68, bb69, AA70, cc70, bb71, AA72, cc72, hF, hM⟩ := hS
                                refine eM 244 (v := .bool false) hF hM (by kernel_rfl) (Yld.to (yld_call (f := 30) (args := #[.agg #[.int .i64 1, .int .i64 1], .slice AA70 2 cc70]) hF (by kernel_rfl) (fun _ => by kernel_rfl) (fun w hM => fits3_w 1 1 AA70 ([(0, 1), (1048575, 1)]) _ w (ro_of_own (hM.ok 70 _ rfl)))) (by kernel_rfl)) fun a w hF hM => ?_
                                exact ⟨bb67, AA68, cc68, bb69, AA70, cc70, bb71, AA72, cc72, ((hF.repl 72 (by kernel_rfl)).cast (by kernel_rfl)), (hM.cast (by kernel_rfl))⟩
                              · intro s0 s1 s2 s3 s4 s5 s6 s7 s8 s9 s10 s11 s12 s13 s14 s15 s16 s17 s18 s19 s20 s21 s22 s23 s24 s25 s26 s27 s28 s29 s30 s31 s32 s33 s34 s35 s36 s37 s38 s39 s40 s41 s42 s43 s44 s45 s46 s47 s48 s49 s50 s51 s52 s53 s54 s55 s56 s57 s58 s59 s60 s61 s62 s63 s64 s65 s66 s67 hc hi hp a w hS
                                obtain rfl : s59 = false := hi
                                obtain rfl : s58 = true := hp 58 (by kernel_rfl)
                                obtain rfl : s54 = true := hp 54 (by kernel_rfl)
                                obtain ⟨bb67, AA68, cc68, bb69, AA70, cc70, bb71, AA72, cc72, hF, hM⟩ := hS
                                refine eP 245 (v0 := .bool true) (v := .bool true) hF (by kernel_rfl) (fun _ => by kernel_rfl) rfl fun a hF => ?_
                                exact ⟨bb67, AA68, cc68, bb69, AA70, cc70, bb71, AA72, cc72, ((hF.repl 73 (by kernel_rfl)).cast (by kernel_rfl)), (hM.cast (by kernel_rfl))⟩
                              · intro s0 s1 s2 s3 s4 s5 s6 s7 s8 s9 s10 s11 s12 s13 s14 s15 s16 s17 s18 s19 s20 s21 s22 s23 s24 s25 s26 s27 s28 s29 s30 s31 s32 s33 s34 s35 s36 s37 s38 s39 s40 s41 s42 s43 s44 s45 s46 s47 s48 s49 s50 s51 s52 s53 s54 s55 s56 s57 s58 s59 s60 s61 s62 s63 s64 s65 s66 s67 hc hi hp a w hS
                                obtain rfl : s60 = false := hi
                                obtain rfl : s59 = true := hp 59 (by kernel_rfl)
                                obtain rfl : s54 = true := hp 54 (by kernel_rfl)
                                obtain ⟨bb67, AA68, cc68, bb69, AA70, cc70, bb71, AA72, cc72, hF, hM⟩ := hS
                                refine eP 246 (v0 := .bool true) (v := .bool true) hF (by kernel_rfl) (fun _ => by kernel_rfl) rfl fun a hF => ?_
                                exact ⟨bb67, AA68, cc68, bb69, AA70, cc70, bb71, AA72, cc72, ((hF.repl 74 (by kernel_rfl)).cast (by kernel_rfl)), (hM.cast (by kernel_rfl))⟩
                              · intro s0 s1 s2 s3 s4 s5 s6 s7 s8 s9 s10 s11 s12 s13 s14 s15 s16 s17 s18 s19 s20 s21 s22 s23 s24 s25 s26 s27 s28 s29 s30 s31 s32 s33 s34 s35 s36 s37 s38 s39 s40 s41 s42 s43 s44 s45 s46 s47 s48 s49 s50 s51 s52 s53 s54 s55 s56 s57 s58 s59 s60 s61 s62 s63 s64 s65 s66 s67 hc hi hp a w hS
                                obtain rfl : s61 = false := hi
                                obtain rfl : s60 = true := hp 60 (by kernel_rfl)
                                obtain ⟨bb67, AA68, cc68, bb69, AA70, cc70, bb71, AA72, cc72, hF, hM⟩ := hS
                                refine eP 247 (v0 := .bool true) (v := .bool true) hF (by kernel_rfl) (fun _ => by kernel_rfl) rfl fun a hF => ?_
                                exact ⟨bb67, AA68, cc68, bb69, AA70, cc70, bb71, AA72, cc72, ((hF.repl 75 (by kernel_rfl)).cast (by kernel_rfl)), (hM.cast (by kernel_rfl))⟩
                              · intro s0 s1 s2 s3 s4 s5 s6 s7 s8 s9 s10 s11 s12 s13 s14 s15 s16 s17 s18 s19 s20 s21 s22 s23 s24 s25 s26 s27 s28 s29 s30 s31 s32 s33 s34 s35 s36 s37 s38 s39 s40 s41 s42 s43 s44 s45 s46 s47 s48 s49 s50 s51 s52 s53 s54 s55 s56 s57 s58 s59 s60 s61 s62 s63 s64 s65 s66 s67 hc hi hp a w hS
                                obtain rfl : s62 = false := hi
                                obtain rfl : s61 = true := hp 61 (by kernel_rfl)
                                obtain ⟨bb67, AA68, cc68, bb69, AA70, cc70, bb71, AA72, cc72, hF, hM⟩ := hS
                                refine eL 248 1 0 (v := .agg #[.int .i64 1, .int .i64 1]) hF hM (by kernel_rfl) rfl rfl (by kernel_rfl) (by kernel_rfl) fun a w hF hM => ?_
                                exact ⟨bb67, AA68, cc68, bb69, AA70, cc70, bb71, AA72, cc72, ((hF.repl 76 (by kernel_rfl)).cast (by kernel_rfl)), (hM.cast (by kernel_rfl))⟩
                              · intro s0 s1 s2 s3 s4 s5 s6 s7 s8 s9 s10 s11 s12 s13 s14 s15 s16 s17 s18 s19 s20 s21 s22 s23 s24 s25 s26 s27 s28 s29 s30 s31 s32 s33 s34 s35 s36 s37 s38 s39 s40 s41 s42 s43 s44 s45 s46 s47 s48 s49 s50 s51 s52 s53 s54 s55 s56 s57 s58 s59 s60 s61 s62 s63 s64 s65 s66 s67 hc hi hp a w hS
                                obtain rfl : s63 = false := hi
                                obtain rfl : s61 = true := hp 61 (by kernel_rfl)
                                obtain ⟨bb67, AA68, cc68, bb69, AA70, cc70, bb71, AA72, cc72, hF, hM⟩ := hS
                                refine eN 249 71 (t := 3) (fun b => .slice (some ⟨b, 0, none⟩) 4 4) #[.int .i64 0, .int .i64 1, .int .i64 1048576, .int .i64 1] hF hM (by kernel_rfl) (fun _ => by kernel_rfl) fun bb71 a w hF hM => ?_
                                exact ⟨bb67, AA68, cc68, bb69, AA70, cc70, bb71, AA72, cc72, ((hF.repl 77 (by kernel_rfl)).cast (by kernel_rfl)), ((hM.repl 7 (by kernel_rfl)).cast (by kernel_rfl))⟩
                              · intro s0 s1 s2 s3 s4 s5 s6 s7 s8 s9 s10 s11 s12 s13 s14 s15 s16 s17 s18 s19 s20 s21 s22 s23 s24 s25 s26 s27 s28 s29 s30 s31 s32 s33 s34 s35 s36 s37 s38 s39 s40 s41 s42 s43 s44 s45 s46 s47 s48 s49 s50 s51 s52 s53 s54 s55 s56 s57 s58 s59 s60 s61 s62 s63 s64 s65 s66 s67 hc hi hp a w hS
                                obtain rfl : s64 = false := hi
                                obtain rfl : s63 = true := hp 63 (by kernel_rfl)
                                obtain rfl : s61 = true := hp 61 (by kernel_rfl)
                                obtain ⟨bb67, AA68, cc68, bb69, AA70, cc70, bb71, AA72, cc72, hF, hM⟩ := hS
                                refine sOwn 72 (f := 31) (args := #[.slice (some ⟨bb71, 0, none⟩) 4 4]) (mk := fun v => v) (e := 30) (size := 2) (m := 2) (xs := (flat2 ([(0, 1), (1048576, 1)]))) hF hM (by kernel_rfl) rfl (by decide) (by kernel_rfl) (fun _ => by kernel_rfl) (trace_w (some ⟨bb71, 0, none⟩) [0, 1, 1048576, 1] 4 w (hM.roRow (k := 71) rfl) (by decide)) fun AA72 cc72 a w hF hM => ?_
                                exact ⟨bb67, AA68, cc68, bb69, AA70, cc70, bb71, AA72, cc72, ((hF.repl 78 (by kernel_rfl)).cast (by kernel_rfl)), ((hM.repl 8 (by kernel_rfl)).cast (by kernel_rfl))⟩
                              · intro s0 s1 s2 s3 s4 s5 s6 s7 s8 s9 s10 s11 s12 s13 s14 s15 s16 s17 s18 s19 s20 s21 s22 s23 s24 s25 s26 s27 s28 s29 s30 s31 s32 s33 s34 s35 s36 s37 s38 s39 s40 s41 s42 s43 s44 s45 s46 s47 s48 s49 s50 s51 s52 s53 s54 s55 s56 s57 s58 s59 s60 s61 s62 s63 s64 s65 s66 s67 hc hi hp a w hS
                                obtain rfl : s65 = false := hi
                                obtain rfl : s64 = true := hp 64 (by kernel_rfl)
                                obtain rfl : s62 = true := hp 62 (by kernel_rfl)
                                obtain rfl : s61 = true := hp 61 (by kernel_rfl)
                                obtain ⟨bb67, AA68, cc68, bb69, AA70, cc70, bb71, AA72, cc72, hF, hM⟩ := hS
                                refine eM 251 (v := .bool true) hF hM (by kernel_rfl) (Yld.to (yld_call (f := 30) (args := #[.agg #[.int .i64 1, .int .i64 1], .slice AA72 2 cc72]) hF (by kernel_rfl) (fun _ => by kernel_rfl) (fun w hM => fits3_w 1 1 AA72 ([(0, 1), (1048576, 1)]) _ w (ro_of_own (hM.ok 72 _ rfl)))) (by kernel_rfl)) fun a w hF hM => ?_
                                exact ⟨bb67, AA68, cc68, bb69, AA70, cc70, bb71, AA72, cc72, ((hF.repl 79 (by kernel_rfl)).cast (by kernel_rfl)), (hM.cast (by kernel_rfl))⟩
                              · intro s0 s1 s2 s3 s4 s5 s6 s7 s8 s9 s10 s11 s12 s13 s14 s15 s16 s17 s18 s19 s20 s21 s22 s23 s24 s25 s26 s27 s28 s29 s30 s31 s32 s33 s34 s35 s36 s37 s38 s39 s40 s41 s42 s43 s44 s45 s46 s47 s48 s49 s50 s51 s52 s53 s54 s55 s56 s57 s58 s59 s60 s61 s62 s63 s64 s65 s66 s67 hc hi hp a w hS
                                obtain rfl : s66 = false := hi
                                obtain rfl : s65 = true := hp 65 (by kernel_rfl)
                                obtain rfl : s61 = true := hp 61 (by kernel_rfl)
                                obtain ⟨bb67, AA68, cc68, bb69, AA70, cc70, bb71, AA72, cc72, hF, hM⟩ := hS
                                refine eP 252 (v0 := .bool true) (v := .bool true) hF (by kernel_rfl) (fun _ => by kernel_rfl) rfl fun a hF => ?_
                                exact ⟨bb67, AA68, cc68, bb69, AA70, cc70, bb71, AA72, cc72, ((hF.repl 80 (by kernel_rfl)).cast (by kernel_rfl)), (hM.cast (by kernel_rfl))⟩
                              · intro s0 s1 s2 s3 s4 s5 s6 s7 s8 s9 s10 s11 s12 s13 s14 s15 s16 s17 s18 s19 s20 s21 s22 s23 s24 s25 s26 s27 s28 s29 s30 s31 s32 s33 s34 s35 s36 s37 s38 s39 s40 s41 s42 s43 s44 s45 s46 s47 s48 s49 s50 s51 s52 s53 s54 s55 s56 s57 s58 s59 s60 s61 s62 s63 s64 s65 s66 s67 hc hi hp a w hS
                                obtain rfl : s67 = false := hi
                                obtain rfl : s66 = true := hp 66 (by kernel_rfl)
                                obtain ⟨bb67, AA68, cc68, bb69, AA70, cc70, bb71, AA72, cc72, hF, hM⟩ := hS
                                refine eP 0 (v0 := .bool true) (v := .bool true) hF (by kernel_rfl) (fun _ => by kernel_rfl) rfl fun a hF => ?_
                                exact ⟨bb67, AA68, cc68, bb69, AA70, cc70, bb71, AA72, cc72, ((hF.repl 0 (by kernel_rfl)).cast (by kernel_rfl)), (hM.cast (by kernel_rfl))⟩
                            · intro a w hS
                              obtain ⟨bb67, AA68, cc68, bb69, AA70, cc70, bb71, AA72, cc72, hF, hM⟩ := hS
                              replace hF : Fr 253 [(0, some (.bool true)), (1, some (.pointer (some ⟨bb1, 0, none⟩))), (20, some (.pointer (some ⟨bb55, 0, none⟩))), (21, some (.int .i64 2199024304128)), (22, some (.int .i64 0)), (24, some (.int .i64 2)), (26, some (.int .i64 2)), (28, some (.int .i64 3)), (30, some (.int .i64 6)), (31, some (.pointer (some ⟨bb62, 0, none⟩))), (32, some (.int .i64 0)), (34, some (.int .i64 6)), (35, some (.int .i64 9)), (36, some (.int .i64 0)), (186, some (.bool true)), (187, some (.bool true)), (188, some (.bool true)), (189, some (.bool true)), (190, some (.int .i64 2199024304128)), (191, some (.bool true)), (192, some (.bool true)), (193, some (.bool true)), (194, some (.int .i64 0)), (195, some (.bool true)), (196, some (.bool true)), (197, some (.bool true)), (198, some (.int .i64 2)), (199, some (.bool true)), (200, some (.bool true)), (201, some (.bool true)), (202, some (.int .i64 2)), (203, some (.bool true)), (204, some (.bool true)), (205, some (.bool true)), (206, some (.int .i64 3)), (207, some (.bool true)), (208, some (.bool true)), (209, some (.bool true)), (210, some (.int .i64 6)), (211, some (.bool true)), (212, some (.bool true)), (213, some (.bool true)), (214, some (.agg #[.int .i64 1048576, .int .i64 2097152])), (215, some (.agg #[.int .i64 1048576, .int .i64 2097152])), (216, some (.bool true)), (217, some (.bool true)), (218, some (.bool true)), (219, some (.int .i64 0)), (220, some (.bool true)), (221, some (.bool true)), (222, some (.bool true)), (223, some (.int .i64 6)), (224, some (.bool true)), (225, some (.bool true)), (226, some (.bool true)), (227, some (.int .i64 9)), (228, some (.bool true)), (229, some (.bool true)), (230, some (.bool true)), (231, some (.int .i64 0)), (232, some (.bool true)), (233, some (.bool true)), (234, some (.bool true)), (235, some (.agg #[.int .i64 1048576, .int .i64 2097152])), (236, some (.slice (some ⟨bb67, 0, none⟩) 4 4)), (237, some (.slice AA68 2 cc68)), (238, some (.bool true)), (239, some (.bool true)), (240, some (.bool true)), (241, some (.agg #[.int .i64 1, .int .i64 1])), (242, some (.slice (some ⟨bb69, 0, none⟩) 4 4)), (243, some (.slice AA70 2 cc70)), (244, some (.bool false)), (245, some (.bool true)), (246, some (.bool true)), (247, some (.bool true)), (248, some (.agg #[.int .i64 1, .int .i64 1])), (249, some (.slice (some ⟨bb71, 0, none⟩) 4 4)), (250, some (.slice AA72 2 cc72)), (251, some (.bool true)), (252, some (.bool true))] a := hF.cast (by kernel_rfl)
                              replace hM : Mem w0.heap.size w0 [(1, some (.row bb1 23 #[.int .i64 1, .int .i64 1])), (55, some (.row bb55 23 #[.int .i64 1048576, .int .i64 2097152])), (62, some (.row bb62 23 #[.int .i64 1048576, .int .i64 2097152])), (67, some (.row bb67 3 #[.int .i64 0, .int .i64 1048576, .int .i64 549755813888, .int .i64 1048576])), (68, some (.own (.slice AA68 2 cc68) 30 2 2 (flat2 ([(0, 1048576), (549755813888, 1048576)])))), (69, some (.row bb69 3 #[.int .i64 0, .int .i64 1, .int .i64 1048575, .int .i64 1])), (70, some (.own (.slice AA70 2 cc70) 30 2 2 (flat2 ([(0, 1), (1048575, 1)])))), (71, some (.row bb71 3 #[.int .i64 0, .int .i64 1, .int .i64 1048576, .int .i64 1])), (72, some (.own (.slice AA72 2 cc72) 30 2 2 (flat2 ([(0, 1), (1048576, 1)]))))] w := hM.cast (by kernel_rfl)
                              refine hK136 _ _ ?_
                              refine wp_ret ?_
                              refine hR0 _ _ ?_
                              refine ret_of hF hM (.tmp rfl (.nil)) ?_
                              exact ⟨rfl, hM.bel⟩

end Go.Proofs.Ytecofcjlokfkhaa
