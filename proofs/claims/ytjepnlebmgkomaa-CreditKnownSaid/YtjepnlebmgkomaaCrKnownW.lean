/-
  The walk of CreditKnown.
-/
import Derived.Test.YtjepnlebmgkomaaCrD
namespace Go.Proofs.Ytjepnlebmgkomaa
open Go.RowKit
set_option linter.unusedVariables false
set_option linter.unusedSimpArgs false

set_option maxRecDepth 100000 in
set_option maxHeartbeats 8000000 in
theorem creditKnown_walk (w0 : World) :
    Calls Try.prog 7 #[] w0 (Ret w0 (.bool true)) := by
  refine enterK 283 Try.func7 rfl rfl rfl ?_
  intro a hF Q0 hR0 hN0
  have hM := Mem.start w0
  refine wp_seq_k fun K1 hK1 => ?_
  refine wp_region_lit ?_
  refine sB 1 [(0, .bool false)] hF (by kernel_rfl) fun a hF => ?_
  refine wpList_nil ?_
  refine hK1 _ _ ?_
  refine wp_seq_k fun K2 hK2 => ?_
  refine wp_region_lit ?_
  refine wl (sC (f := 22) (args := #[]) hF (by kernel_rfl) rfl (by decide) (by kernel_rfl) (fun _ => by kernel_rfl) ?_)
  refine enterK 2 Try.func22 rfl rfl rfl ?_
  intro a1 hF1 QR3 hR3 hNR3
  refine wp_seq_k fun K4 hK4 => ?_
  refine wp_region_lit ?_
  refine wl (eN 0 1 (t := 23) (fun b => .pointer (some ⟨b, 0, none⟩)) #[.int .i64 0, .int .i64 0] hF1 hM (by kernel_rfl) (fun _ => by kernel_rfl) fun bb1 a1 w hF1 hM => ?_)
  refine wpList_nil ?_
  refine hK4 _ _ ?_
  refine wp_seq_k fun K5 hK5 => ?_
  refine wp_region_lit ?_
  refine sB 1 [(1, .agg #[.int .i64 131072, .int .i64 2])] hF1 (by kernel_rfl) fun a1 hF1 => ?_
  refine wl (sStore (i := 1) (off := 0) (cs' := #[.int .i64 131072, .int .i64 2]) hF1 hM (by kernel_rfl) rfl rfl (by kernel_rfl) (by kernel_rfl) rfl (by kernel_rfl) fun w hM => ?_)
  refine wpList_nil ?_
  refine hK5 _ _ ?_
  refine wp_ret ?_
  refine hR3 _ _ ?_
  refine ret_of hF1 hM (.cell (i := 1) rfl rfl (v := .agg #[.int .i64 131072, .int .i64 2]) (by kernel_rfl) (.nil)) ⟨_, rfl, ?_⟩
  intro a hF
  refine wl (eN 1 2 (t := 23) (fun b => .pointer (some ⟨b, 0, none⟩)) #[.int .i64 0, .int .i64 0] hF hM (by kernel_rfl) (fun _ => by kernel_rfl) fun bb2 a w hF hM => ?_)
  refine wl (sStore (i := 2) (off := 0) (cs' := #[.int .i64 131072, .int .i64 2]) hF hM (by kernel_rfl) rfl rfl (by kernel_rfl) (by kernel_rfl) rfl (by kernel_rfl) fun w hM => ?_)
  refine wpList_nil ?_
  refine hK2 _ _ ?_
  refine wp_seq_k fun K6 hK6 => ?_
  refine wp_seq_k fun K7 hK7 => ?_
  refine wp_region_lit ?_
  refine sB 8 [(52, .agg #[.int .i64 0, .int .i64 0]), (53, .agg #[.int .i64 1, .int .i64 0]), (54, .agg #[.int .i64 0, .int .i64 1]), (55, .agg #[.int .i64 (-1), .int .i64 1]), (56, .agg #[.int .i64 1, .int .i64 1001]), (57, .agg #[.int .i64 1048576, .int .i64 1]), (58, .agg #[.int .i64 0, .int .i64 0, .int .i64 1, .int .i64 0, .int .i64 0, .int .i64 1, .int .i64 (-1), .int .i64 1, .int .i64 1, .int .i64 1001, .int .i64 1048576, .int .i64 1]), (59, .int .i64 0)] hF (by kernel_rfl) fun a hF => ?_
  refine wpList_nil ?_
  refine hK7 _ _ ?_
  refine wp_block ?_
  refine wp_loop_rounds 7 ?_
  refine rounds_k fun K8 hK8 => ?_
  refine wp_seq_k fun K9 hK9 => ?_
  refine wp_region_lit ?_
  refine wl (eP 60 (v0 := .bool (decide (0 < 6))) (v := .bool true) hF (by kernel_rfl) (fun _ => by kernel_rfl) (bT (by omega)) fun a hF => ?_)
  refine wpList_nil ?_
  refine hK9 _ _ ?_
  refine wp_seq_k fun K10 hK10 => ?_
  refine cT hF (by kernel_rfl) (by kernel_rfl) ?_
  refine wp_skip ?_
  refine hK10 _ _ ?_
  refine wp_seq_k fun K11 hK11 => ?_
  refine wp_block ?_
  refine wp_seq_k fun K12 hK12 => ?_
  refine wp_region_lit ?_
  refine sB 1 [(61, .agg #[.int .i64 0, .int .i64 0])] hF (by kernel_rfl) fun a hF => ?_
  refine wl (eN 3 3 (t := 23) (fun b => .pointer (some ⟨b, 0, none⟩)) #[.int .i64 0, .int .i64 0] hF hM (by kernel_rfl) (fun _ => by kernel_rfl) fun bb3 a w hF hM => ?_)
  refine wl (sStore (i := 3) (off := 0) (cs' := #[.int .i64 0, .int .i64 0]) hF hM (by kernel_rfl) rfl rfl (by kernel_rfl) (by kernel_rfl) rfl (by kernel_rfl) fun w hM => ?_)
  refine wpList_nil ?_
  refine hK12 _ _ ?_
  refine wp_seq_k fun K13 hK13 => ?_
  refine wp_region_lit ?_
  refine wl (eL 63 3 0 (v := .agg #[.int .i64 0, .int .i64 0]) hF hM (by kernel_rfl) rfl rfl (by kernel_rfl) (by kernel_rfl) fun a w hF hM => ?_)
  refine sB 1 [(64, .agg #[.int .i64 (-1), .int .i64 0])] hF (by kernel_rfl) fun a hF => ?_
  refine wl (eM 65 (v := .tuple #[.int .i64 0, .agg #[.int .i64 0, .int .i64 0], .int .i64 450]) hF hM (by kernel_rfl) ((yld_call (f := 20) (args := #[.agg #[.int .i64 0, .int .i64 0], .agg #[.int .i64 (-1), .int .i64 0], .int .i64 (-1), .int .i64 (-1), .int .i64 0]) hF (by kernel_rfl) (fun _ => by kernel_rfl) (fun w hM => crStep_w 0 0 (-1) 0 (-1) (-1) 0 w)).to (by kernel_rfl)) fun a w hF hM => ?_)
  refine sB 4 [(62, .tuple #[.int .i64 0, .agg #[.int .i64 0, .int .i64 0], .int .i64 450]), (66, .int .i64 0), (67, .agg #[.int .i64 0, .int .i64 0]), (68, .int .i64 450)] hF (by kernel_rfl) fun a hF => ?_
  refine wl (eN 5 4 (t := 40) (fun b => .pointer (some ⟨b, 0, none⟩)) #[.int .i64 0, .int .i64 0] hF hM (by kernel_rfl) (fun _ => by kernel_rfl) fun bb4 a w hF hM => ?_)
  refine sB 1 [(4, .int .i64 0)] hF (by kernel_rfl) fun a hF => ?_
  refine wl (sStore (i := 4) (off := 0) (cs' := #[.int .i64 0, .int .i64 0]) hF hM (by kernel_rfl) rfl rfl (by kernel_rfl) (by kernel_rfl) rfl (by kernel_rfl) fun w hM => ?_)
  refine sB 1 [(6, .int .i64 450)] hF (by kernel_rfl) fun a hF => ?_
  refine wpList_nil ?_
  refine hK13 _ _ ?_
  refine wp_seq_k fun K14 hK14 => ?_
  refine rF (by kernel_rfl) (by kernel_rfl) (fun S a w => ∃ bb5 : Nat, ∃ AA6 : Option Addr, ∃ cc6 : Nat, ∃ bb7 : Nat, Fr 283 [(0, some (.bool false)), (1, some (.pointer (some ⟨bb2, 0, none⟩))), (3, some (.pointer (some ⟨bb3, 0, none⟩))), (5, some (.pointer (some ⟨bb4, 0, none⟩))), (6, some (.int .i64 450)), (7, (cond (S.getD 9 false) (some (.slice none 0 0)) none)), (8, (cond (S.getD 8 false) (some (.pointer (some ⟨bb7, 0, none⟩))) none)), (9, (cond (S.getD 11 false) (some (.int .i64 450)) none)), (58, some (.agg #[.int .i64 0, .int .i64 0, .int .i64 1, .int .i64 0, .int .i64 0, .int .i64 1, .int .i64 (-1), .int .i64 1, .int .i64 1, .int .i64 1001, .int .i64 1048576, .int .i64 1])), (59, some (.int .i64 0)), (60, some (.bool true)), (61, some (.agg #[.int .i64 0, .int .i64 0])), (62, some (.tuple #[.int .i64 0, .agg #[.int .i64 0, .int .i64 0], .int .i64 450])), (63, some (.agg #[.int .i64 0, .int .i64 0])), (64, some (.agg #[.int .i64 (-1), .int .i64 0])), (65, some (.tuple #[.int .i64 0, .agg #[.int .i64 0, .int .i64 0], .int .i64 450])), (66, some (.int .i64 0)), (67, some (.agg #[.int .i64 0, .int .i64 0])), (68, some (.int .i64 450)), (69, (cond (S.getD 4 false) (some (.tuple #[.slice none 0 0, .agg #[.int .i64 0, .int .i64 0], .int .i64 450])) none)), (70, (cond (S.getD 0 false) (some (.agg #[.int .i64 0, .int .i64 0])) none)), (71, (cond (S.getD 1 false) (some (.slice (some ⟨bb5, 0, none⟩) 2 2)) none)), (72, (cond (S.getD 2 false) (some (.slice AA6 1 cc6)) none)), (73, (cond (S.getD 3 false) (some (.tuple #[.slice none 0 0, .agg #[.int .i64 0, .int .i64 0], .int .i64 450])) none)), (74, (cond (S.getD 5 false) (some (.slice none 0 0)) none)), (75, (cond (S.getD 6 false) (some (.agg #[.int .i64 0, .int .i64 0])) none)), (76, (cond (S.getD 7 false) (some (.int .i64 450)) none))] a ∧ Mem w0.heap.size w0 [(2, some (.row bb2 23 #[.int .i64 131072, .int .i64 2])), (3, some (.row bb3 23 #[.int .i64 0, .int .i64 0])), (4, some (.row bb4 40 #[.int .i64 0, .int .i64 0])), (5, (cond (S.getD 1 false) (some (.row bb5 3 #[.int .i64 5, .int .i64 0])) none)), (6, (cond (S.getD 2 false) (some (.own (.slice AA6 1 cc6) 57 2 1 (flat2 ([(5, 0)])))) none)), (7, (cond (S.getD 10 false) (some (.row bb7 40 #[.int .i64 0, .int .i64 0])) (cond (S.getD 8 false) (some (.row bb7 40 #[.int .i64 0, .int .i64 0])) none)))] w) ?_ ?_ ?_
  · exact ⟨0, none, 0, 0, ((((((((((((((((((((((((((((Fr.nil hF).co hF (i := 76) (by kernel_rfl)).co hF (i := 75) (by kernel_rfl)).co hF (i := 74) (by kernel_rfl)).co hF (i := 73) (by kernel_rfl)).co hF (i := 72) (by kernel_rfl)).co hF (i := 71) (by kernel_rfl)).co hF (i := 70) (by kernel_rfl)).co hF (i := 69) (by kernel_rfl)).co hF (i := 68) (by kernel_rfl)).co hF (i := 67) (by kernel_rfl)).co hF (i := 66) (by kernel_rfl)).co hF (i := 65) (by kernel_rfl)).co hF (i := 64) (by kernel_rfl)).co hF (i := 63) (by kernel_rfl)).co hF (i := 62) (by kernel_rfl)).co hF (i := 61) (by kernel_rfl)).co hF (i := 60) (by kernel_rfl)).co hF (i := 59) (by kernel_rfl)).co hF (i := 58) (by kernel_rfl)).co hF (i := 9) (by kernel_rfl)).co hF (i := 8) (by kernel_rfl)).co hF (i := 7) (by kernel_rfl)).co hF (i := 6) (by kernel_rfl)).co hF (i := 5) (by kernel_rfl)).co hF (i := 3) (by kernel_rfl)).co hF (i := 1) (by kernel_rfl)).co hF (i := 0) (by kernel_rfl)), hM.drew.sub ((((((Sub.nil.co (k := 7) (by kernel_rfl)).co (k := 6) (by kernel_rfl)).co (k := 5) (by kernel_rfl)).co (k := 4) (by kernel_rfl)).co (k := 3) (by kernel_rfl)).co (k := 2) (by kernel_rfl))⟩
  · refine stC ?_ (stC ?_ (stC ?_ (stC ?_ (stC ?_ (stC ?_ (stC ?_ (stC ?_ (stC ?_ (stC ?_ (stC ?_ (stC ?_ (trivial))))))))))))
    · intro s0 s1 s2 s3 s4 s5 s6 s7 s8 s9 s10 s11 hc hi hp a w hS
      obtain rfl : s0 = false := hi
      obtain ⟨bb5, AA6, cc6, bb7, hF, hM⟩ := hS
      refine eL 70 3 0 (v := .agg #[.int .i64 0, .int .i64 0]) hF hM (by kernel_rfl) rfl rfl (by kernel_rfl) (by kernel_rfl) fun a w hF hM => ?_
      exact ⟨bb5, AA6, cc6, bb7, ((hF.repl 20 (by kernel_rfl)).cast (by kernel_rfl)), (hM.cast (by kernel_rfl))⟩
    · intro s0 s1 s2 s3 s4 s5 s6 s7 s8 s9 s10 s11 hc hi hp a w hS
      obtain rfl : s1 = false := hi
      obtain ⟨bb5, AA6, cc6, bb7, hF, hM⟩ := hS
      refine eN 71 5 (t := 3) (fun b => .slice (some ⟨b, 0, none⟩) 2 2) #[.int .i64 5, .int .i64 0] hF hM (by kernel_rfl) (fun _ => by kernel_rfl) fun bb5 a w hF hM => ?_
      exact ⟨bb5, AA6, cc6, bb7, ((hF.repl 21 (by kernel_rfl)).cast (by kernel_rfl)), ((hM.repl 3 (by kernel_rfl)).cast (by kernel_rfl))⟩
    · intro s0 s1 s2 s3 s4 s5 s6 s7 s8 s9 s10 s11 hc hi hp a w hS
      obtain rfl : s2 = false := hi
      obtain rfl : s1 = true := hp 1 (by kernel_rfl)
      obtain ⟨bb5, AA6, cc6, bb7, hF, hM⟩ := hS
      refine sOwn 6 (f := 23) (args := #[.slice (some ⟨bb5, 0, none⟩) 2 2]) (mk := fun v => v) (e := 57) (size := 2) (m := 1) (xs := (flat2 ([(5, 0)]))) hF hM (by kernel_rfl) rfl (by decide) (by kernel_rfl) (fun _ => by kernel_rfl) (trace_w (some ⟨bb5, 0, none⟩) [5, 0] 2 w (hM.roRow (k := 5) rfl) (by decide)) fun AA6 cc6 a w hF hM => ?_
      exact ⟨bb5, AA6, cc6, bb7, ((hF.repl 22 (by kernel_rfl)).cast (by kernel_rfl)), ((hM.repl 4 (by kernel_rfl)).cast (by kernel_rfl))⟩
    · intro s0 s1 s2 s3 s4 s5 s6 s7 s8 s9 s10 s11 hc hi hp a w hS
      obtain rfl : s3 = false := hi
      obtain rfl : s2 = true := hp 2 (by kernel_rfl)
      obtain rfl : s0 = true := hp 0 (by kernel_rfl)
      obtain ⟨bb5, AA6, cc6, bb7, hF, hM⟩ := hS
      refine eM 73 (v := .tuple #[.slice none 0 0, .agg #[.int .i64 0, .int .i64 0], .int .i64 450]) hF hM (by kernel_rfl) (yld_call (f := 12) (args := #[.agg #[.int .i64 0, .int .i64 0], .slice AA6 1 cc6, .slice none 0 0]) hF (by kernel_rfl) (fun _ => by kernel_rfl) (fun w hM => crRun_err (by decide : runS 0 0 ([(5, 0)]) ([] : List Int) = (450, [], 0, 0)) (crRun_w 0 0 AA6 ([(5, 0)]) cc6 none ([] : List Int) 0 w (ro_of_own (hM.ok 6 _ rfl)) Ro.nil (by decide) (by decide)))) fun a w hF hM => ?_
      exact ⟨bb5, AA6, cc6, bb7, ((hF.repl 23 (by kernel_rfl)).cast (by kernel_rfl)), (hM.cast (by kernel_rfl))⟩
    · intro s0 s1 s2 s3 s4 s5 s6 s7 s8 s9 s10 s11 hc hi hp a w hS
      obtain rfl : s4 = false := hi
      obtain rfl : s3 = true := hp 3 (by kernel_rfl)
      obtain ⟨bb5, AA6, cc6, bb7, hF, hM⟩ := hS
      refine eP 69 (v0 := .tuple #[.slice none 0 0, .agg #[.int .i64 0, .int .i64 0], .int .i64 450]) (v := .tuple #[.slice none 0 0, .agg #[.int .i64 0, .int .i64 0], .int .i64 450]) hF (by kernel_rfl) (fun _ => by kernel_rfl) rfl fun a hF => ?_
      exact ⟨bb5, AA6, cc6, bb7, ((hF.repl 19 (by kernel_rfl)).cast (by kernel_rfl)), (hM.cast (by kernel_rfl))⟩
    · intro s0 s1 s2 s3 s4 s5 s6 s7 s8 s9 s10 s11 hc hi hp a w hS
      obtain rfl : s5 = false := hi
      obtain rfl : s4 = true := hp 4 (by kernel_rfl)
      obtain ⟨bb5, AA6, cc6, bb7, hF, hM⟩ := hS
      refine eP 74 (v0 := .slice none 0 0) (v := .slice none 0 0) hF (by kernel_rfl) (fun _ => by kernel_rfl) rfl fun a hF => ?_
      exact ⟨bb5, AA6, cc6, bb7, ((hF.repl 24 (by kernel_rfl)).cast (by kernel_rfl)), (hM.cast (by kernel_rfl))⟩
    · intro s0 s1 s2 s3 s4 s5 s6 s7 s8 s9 s10 s11 hc hi hp a w hS
      obtain rfl : s6 = false := hi
      obtain rfl : s4 = true := hp 4 (by kernel_rfl)
      obtain ⟨bb5, AA6, cc6, bb7, hF, hM⟩ := hS
      refine eP 75 (v0 := .agg #[.int .i64 0, .int .i64 0]) (v := .agg #[.int .i64 0, .int .i64 0]) hF (by kernel_rfl) (fun _ => by kernel_rfl) rfl fun a hF => ?_
      exact ⟨bb5, AA6, cc6, bb7, ((hF.repl 25 (by kernel_rfl)).cast (by kernel_rfl)), (hM.cast (by kernel_rfl))⟩
    · intro s0 s1 s2 s3 s4 s5 s6 s7 s8 s9 s10 s11 hc hi hp a w hS
      obtain rfl : s7 = false := hi
      obtain rfl : s4 = true := hp 4 (by kernel_rfl)
      obtain ⟨bb5, AA6, cc6, bb7, hF, hM⟩ := hS
      refine eP 76 (v0 := .int .i64 450) (v := .int .i64 450) hF (by kernel_rfl) (fun _ => by kernel_rfl) rfl fun a hF => ?_
      exact ⟨bb5, AA6, cc6, bb7, ((hF.repl 26 (by kernel_rfl)).cast (by kernel_rfl)), (hM.cast (by kernel_rfl))⟩
    · intro s0 s1 s2 s3 s4 s5 s6 s7 s8 s9 s10 s11 hc hi hp a w hS
      obtain rfl : s8 = false := hi
      obtain rfl : s10 = false := hc.f 10 8 (by kernel_rfl) rfl
      obtain ⟨bb5, AA6, cc6, bb7, hF, hM⟩ := hS
      refine eN 8 7 (t := 40) (fun b => .pointer (some ⟨b, 0, none⟩)) #[.int .i64 0, .int .i64 0] hF hM (by kernel_rfl) (fun _ => by kernel_rfl) fun bb7 a w hF hM => ?_
      exact ⟨bb5, AA6, cc6, bb7, ((hF.repl 6 (by kernel_rfl)).cast (by kernel_rfl)), ((hM.repl 5 (by kernel_rfl)).cast (by kernel_rfl))⟩
    · intro s0 s1 s2 s3 s4 s5 s6 s7 s8 s9 s10 s11 hc hi hp a w hS
      obtain rfl : s9 = false := hi
      obtain rfl : s5 = true := hp 5 (by kernel_rfl)
      obtain ⟨bb5, AA6, cc6, bb7, hF, hM⟩ := hS
      refine eP 7 (v0 := .slice none 0 0) (v := .slice none 0 0) hF (by kernel_rfl) (fun _ => by kernel_rfl) rfl fun a hF => ?_
      exact ⟨bb5, AA6, cc6, bb7, ((hF.repl 5 (by kernel_rfl)).cast (by kernel_rfl)), (hM.cast (by kernel_rfl))⟩
    · intro s0 s1 s2 s3 s4 s5 s6 s7 s8 s9 s10 s11 hc hi hp a w hS
      obtain rfl : s10 = false := hi
      obtain rfl : s8 = true := hp 8 (by kernel_rfl)
      obtain rfl : s6 = true := hp 6 (by kernel_rfl)
      obtain ⟨bb5, AA6, cc6, bb7, hF, hM⟩ := hS
      refine sStore (i := 7) (off := 0) (cs' := #[.int .i64 0, .int .i64 0]) hF hM (by kernel_rfl) rfl rfl (by kernel_rfl) (by kernel_rfl) rfl (by kernel_rfl) fun w hM => ?_
      exact ⟨bb5, AA6, cc6, bb7, (hF.cast (by kernel_rfl)), ((hM.repl 5 (by kernel_rfl)).cast (by kernel_rfl))⟩
    · intro s0 s1 s2 s3 s4 s5 s6 s7 s8 s9 s10 s11 hc hi hp a w hS
      obtain rfl : s11 = false := hi
      obtain rfl : s7 = true := hp 7 (by kernel_rfl)
      obtain ⟨bb5, AA6, cc6, bb7, hF, hM⟩ := hS
      refine eP 9 (v0 := .int .i64 450) (v := .int .i64 450) hF (by kernel_rfl) (fun _ => by kernel_rfl) rfl fun a hF => ?_
      exact ⟨bb5, AA6, cc6, bb7, ((hF.repl 7 (by kernel_rfl)).cast (by kernel_rfl)), (hM.cast (by kernel_rfl))⟩
  · intro a w hS
    obtain ⟨bb5, AA6, cc6, bb7, hF, hM⟩ := hS
    replace hF : Fr 283 [(0, some (.bool false)), (1, some (.pointer (some ⟨bb2, 0, none⟩))), (3, some (.pointer (some ⟨bb3, 0, none⟩))), (5, some (.pointer (some ⟨bb4, 0, none⟩))), (6, some (.int .i64 450)), (7, some (.slice none 0 0)), (8, some (.pointer (some ⟨bb7, 0, none⟩))), (9, some (.int .i64 450)), (58, some (.agg #[.int .i64 0, .int .i64 0, .int .i64 1, .int .i64 0, .int .i64 0, .int .i64 1, .int .i64 (-1), .int .i64 1, .int .i64 1, .int .i64 1001, .int .i64 1048576, .int .i64 1])), (59, some (.int .i64 0)), (60, some (.bool true)), (61, some (.agg #[.int .i64 0, .int .i64 0])), (62, some (.tuple #[.int .i64 0, .agg #[.int .i64 0, .int .i64 0], .int .i64 450])), (63, some (.agg #[.int .i64 0, .int .i64 0])), (64, some (.agg #[.int .i64 (-1), .int .i64 0])), (65, some (.tuple #[.int .i64 0, .agg #[.int .i64 0, .int .i64 0], .int .i64 450])), (66, some (.int .i64 0)), (67, some (.agg #[.int .i64 0, .int .i64 0])), (68, some (.int .i64 450)), (69, some (.tuple #[.slice none 0 0, .agg #[.int .i64 0, .int .i64 0], .int .i64 450])), (70, some (.agg #[.int .i64 0, .int .i64 0])), (71, some (.slice (some ⟨bb5, 0, none⟩) 2 2)), (72, some (.slice AA6 1 cc6)), (73, some (.tuple #[.slice none 0 0, .agg #[.int .i64 0, .int .i64 0], .int .i64 450])), (74, some (.slice none 0 0)), (75, some (.agg #[.int .i64 0, .int .i64 0])), (76, some (.int .i64 450))] a := hF.cast (by kernel_rfl)
    replace hM : Mem w0.heap.size w0 [(2, some (.row bb2 23 #[.int .i64 131072, .int .i64 2])), (3, some (.row bb3 23 #[.int .i64 0, .int .i64 0])), (4, some (.row bb4 40 #[.int .i64 0, .int .i64 0])), (5, some (.row bb5 3 #[.int .i64 5, .int .i64 0])), (6, some (.own (.slice AA6 1 cc6) 57 2 1 (flat2 ([(5, 0)])))), (7, some (.row bb7 40 #[.int .i64 0, .int .i64 0]))] w := hM.cast (by kernel_rfl)
    refine hK14 _ _ ?_
    refine wp_seq_k fun K15 hK15 => ?_
    refine wp_region_lit ?_
    refine wl (eL 77 3 0 (v := .agg #[.int .i64 0, .int .i64 0]) hF hM (by kernel_rfl) rfl rfl (by kernel_rfl) (by kernel_rfl) fun a w hF hM => ?_)
    refine wl (eM 78 (v := .int .i64 450) hF hM (by kernel_rfl) ((yld_call (f := 16) (args := #[.agg #[.int .i64 0, .int .i64 0]]) hF (by kernel_rfl) (fun _ => by kernel_rfl) (fun w hM => crCheck_w 0 0 w)).to (by kernel_rfl)) fun a w hF hM => ?_)
    refine wl (eP 79 (v0 := .bool (!decide (450 = 450))) (v := .bool false) hF (by kernel_rfl) (fun _ => by kernel_rfl) (nT (by omega)) fun a hF => ?_)
    refine sB 2 [(80, .bool false), (81, .int .i64 450)] hF (by kernel_rfl) fun a hF => ?_
    refine wl (eP 82 (v0 := .bool (!decide (450 = 450))) (v := .bool false) hF (by kernel_rfl) (fun _ => by kernel_rfl) (nT (by omega)) fun a hF => ?_)
    refine sB 3 [(83, .bool false), (84, .bool false), (85, .int .i64 450)] hF (by kernel_rfl) fun a hF => ?_
    refine wl (eP 86 (v0 := .bool (!decide (450 = 450))) (v := .bool false) hF (by kernel_rfl) (fun _ => by kernel_rfl) (nT (by omega)) fun a hF => ?_)
    refine sB 1 [(87, .bool false)] hF (by kernel_rfl) fun a hF => ?_
    refine wpList_nil ?_
    refine hK15 _ _ ?_
    refine cF hF (by kernel_rfl) (by kernel_rfl) ?_
    refine wp_skip ?_
    refine hK11 _ _ ?_
    refine wp_region_lit ?_
    refine wl (eP 88 (v0 := .int .i64 (IntKind.i64.wrap (0 + 1))) (v := .int .i64 1) hF (by kernel_rfl) (fun _ => by kernel_rfl) (vi (by decide)) fun a hF => ?_)
    refine sB 1 [(59, .int .i64 1)] hF (by kernel_rfl) fun a hF => ?_
    refine wpList_nil ?_
    refine hK8 _ _ ?_
    refine rounds_k fun K16 hK16 => ?_
    refine wp_seq_k fun K17 hK17 => ?_
    refine wp_region_lit ?_
    refine wl (eP 60 (v0 := .bool (decide (1 < 6))) (v := .bool true) hF (by kernel_rfl) (fun _ => by kernel_rfl) (bT (by omega)) fun a hF => ?_)
    refine wpList_nil ?_
    refine hK17 _ _ ?_
    refine wp_seq_k fun K18 hK18 => ?_
    refine cT hF (by kernel_rfl) (by kernel_rfl) ?_
    refine wp_skip ?_
    refine hK18 _ _ ?_
    refine wp_seq_k fun K19 hK19 => ?_
    refine wp_block ?_
    refine wp_seq_k fun K20 hK20 => ?_
    refine wp_region_lit ?_
    refine sB 1 [(61, .agg #[.int .i64 1, .int .i64 0])] hF (by kernel_rfl) fun a hF => ?_
    refine wl (eN 3 8 (t := 23) (fun b => .pointer (some ⟨b, 0, none⟩)) #[.int .i64 0, .int .i64 0] hF hM (by kernel_rfl) (fun _ => by kernel_rfl) fun bb8 a w hF hM => ?_)
    refine wl (sStore (i := 8) (off := 0) (cs' := #[.int .i64 1, .int .i64 0]) hF hM (by kernel_rfl) rfl rfl (by kernel_rfl) (by kernel_rfl) rfl (by kernel_rfl) fun w hM => ?_)
    refine wpList_nil ?_
    refine hK20 _ _ ?_
    refine wp_seq_k fun K21 hK21 => ?_
    refine wp_region_lit ?_
    refine wl (eL 63 8 0 (v := .agg #[.int .i64 1, .int .i64 0]) hF hM (by kernel_rfl) rfl rfl (by kernel_rfl) (by kernel_rfl) fun a w hF hM => ?_)
    refine sB 1 [(64, .agg #[.int .i64 (-1), .int .i64 0])] hF (by kernel_rfl) fun a hF => ?_
    refine wl (eM 65 (v := .tuple #[.int .i64 0, .agg #[.int .i64 0, .int .i64 0], .int .i64 450]) hF hM (by kernel_rfl) ((yld_call (f := 20) (args := #[.agg #[.int .i64 1, .int .i64 0], .agg #[.int .i64 (-1), .int .i64 0], .int .i64 (-1), .int .i64 (-1), .int .i64 0]) hF (by kernel_rfl) (fun _ => by kernel_rfl) (fun w hM => crStep_w 1 0 (-1) 0 (-1) (-1) 0 w)).to (by kernel_rfl)) fun a w hF hM => ?_)
    refine sB 4 [(62, .tuple #[.int .i64 0, .agg #[.int .i64 0, .int .i64 0], .int .i64 450]), (66, .int .i64 0), (67, .agg #[.int .i64 0, .int .i64 0]), (68, .int .i64 450)] hF (by kernel_rfl) fun a hF => ?_
    refine wl (eN 5 9 (t := 40) (fun b => .pointer (some ⟨b, 0, none⟩)) #[.int .i64 0, .int .i64 0] hF hM (by kernel_rfl) (fun _ => by kernel_rfl) fun bb9 a w hF hM => ?_)
    refine sB 1 [(4, .int .i64 0)] hF (by kernel_rfl) fun a hF => ?_
    refine wl (sStore (i := 9) (off := 0) (cs' := #[.int .i64 0, .int .i64 0]) hF hM (by kernel_rfl) rfl rfl (by kernel_rfl) (by kernel_rfl) rfl (by kernel_rfl) fun w hM => ?_)
    refine sB 1 [(6, .int .i64 450)] hF (by kernel_rfl) fun a hF => ?_
    refine wpList_nil ?_
    refine hK21 _ _ ?_
    refine wp_seq_k fun K22 hK22 => ?_
    refine rF (by kernel_rfl) (by kernel_rfl) (fun S a w => ∃ bb10 : Nat, ∃ AA11 : Option Addr, ∃ cc11 : Nat, ∃ bb12 : Nat, Fr 283 [(0, some (.bool false)), (1, some (.pointer (some ⟨bb2, 0, none⟩))), (3, some (.pointer (some ⟨bb8, 0, none⟩))), (5, some (.pointer (some ⟨bb9, 0, none⟩))), (6, some (.int .i64 450)), (7, (cond (S.getD 9 false) (some (.slice none 0 0)) (some (.slice none 0 0)))), (8, (cond (S.getD 8 false) (some (.pointer (some ⟨bb12, 0, none⟩))) (some (.pointer (some ⟨bb7, 0, none⟩))))), (9, (cond (S.getD 11 false) (some (.int .i64 450)) (some (.int .i64 450)))), (58, some (.agg #[.int .i64 0, .int .i64 0, .int .i64 1, .int .i64 0, .int .i64 0, .int .i64 1, .int .i64 (-1), .int .i64 1, .int .i64 1, .int .i64 1001, .int .i64 1048576, .int .i64 1])), (59, some (.int .i64 1)), (60, some (.bool true)), (61, some (.agg #[.int .i64 1, .int .i64 0])), (62, some (.tuple #[.int .i64 0, .agg #[.int .i64 0, .int .i64 0], .int .i64 450])), (63, some (.agg #[.int .i64 1, .int .i64 0])), (64, some (.agg #[.int .i64 (-1), .int .i64 0])), (65, some (.tuple #[.int .i64 0, .agg #[.int .i64 0, .int .i64 0], .int .i64 450])), (66, some (.int .i64 0)), (67, some (.agg #[.int .i64 0, .int .i64 0])), (68, some (.int .i64 450)), (69, (cond (S.getD 4 false) (some (.tuple #[.slice none 0 0, .agg #[.int .i64 0, .int .i64 0], .int .i64 450])) (some (.tuple #[.slice none 0 0, .agg #[.int .i64 0, .int .i64 0], .int .i64 450])))), (70, (cond (S.getD 0 false) (some (.agg #[.int .i64 1, .int .i64 0])) (some (.agg #[.int .i64 0, .int .i64 0])))), (71, (cond (S.getD 1 false) (some (.slice (some ⟨bb10, 0, none⟩) 2 2)) (some (.slice (some ⟨bb5, 0, none⟩) 2 2)))), (72, (cond (S.getD 2 false) (some (.slice AA11 1 cc11)) (some (.slice AA6 1 cc6)))), (73, (cond (S.getD 3 false) (some (.tuple #[.slice none 0 0, .agg #[.int .i64 0, .int .i64 0], .int .i64 450])) (some (.tuple #[.slice none 0 0, .agg #[.int .i64 0, .int .i64 0], .int .i64 450])))), (74, (cond (S.getD 5 false) (some (.slice none 0 0)) (some (.slice none 0 0)))), (75, (cond (S.getD 6 false) (some (.agg #[.int .i64 0, .int .i64 0])) (some (.agg #[.int .i64 0, .int .i64 0])))), (76, (cond (S.getD 7 false) (some (.int .i64 450)) (some (.int .i64 450)))), (77, some (.agg #[.int .i64 0, .int .i64 0])), (78, some (.int .i64 450)), (79, some (.bool false)), (80, some (.bool false)), (81, some (.int .i64 450)), (82, some (.bool false)), (83, some (.bool false)), (84, some (.bool false)), (85, some (.int .i64 450)), (86, some (.bool false)), (87, some (.bool false)), (88, some (.int .i64 1))] a ∧ Mem w0.heap.size w0 [(2, some (.row bb2 23 #[.int .i64 131072, .int .i64 2])), (5, some (.row bb5 3 #[.int .i64 5, .int .i64 0])), (6, some (.own (.slice AA6 1 cc6) 57 2 1 (flat2 ([(5, 0)])))), (7, some (.row bb7 40 #[.int .i64 0, .int .i64 0])), (8, some (.row bb8 23 #[.int .i64 1, .int .i64 0])), (9, some (.row bb9 40 #[.int .i64 0, .int .i64 0])), (10, (cond (S.getD 1 false) (some (.row bb10 3 #[.int .i64 5, .int .i64 0])) none)), (11, (cond (S.getD 2 false) (some (.own (.slice AA11 1 cc11) 57 2 1 (flat2 ([(5, 0)])))) none)), (12, (cond (S.getD 10 false) (some (.row bb12 40 #[.int .i64 0, .int .i64 0])) (cond (S.getD 8 false) (some (.row bb12 40 #[.int .i64 0, .int .i64 0])) none)))] w) ?_ ?_ ?_
    · exact ⟨0, none, 0, 0, ((((((((((((((((((((((((((((((((((((((((Fr.nil hF).co hF (i := 88) (by kernel_rfl)).co hF (i := 87) (by kernel_rfl)).co hF (i := 86) (by kernel_rfl)).co hF (i := 85) (by kernel_rfl)).co hF (i := 84) (by kernel_rfl)).co hF (i := 83) (by kernel_rfl)).co hF (i := 82) (by kernel_rfl)).co hF (i := 81) (by kernel_rfl)).co hF (i := 80) (by kernel_rfl)).co hF (i := 79) (by kernel_rfl)).co hF (i := 78) (by kernel_rfl)).co hF (i := 77) (by kernel_rfl)).co hF (i := 76) (by kernel_rfl)).co hF (i := 75) (by kernel_rfl)).co hF (i := 74) (by kernel_rfl)).co hF (i := 73) (by kernel_rfl)).co hF (i := 72) (by kernel_rfl)).co hF (i := 71) (by kernel_rfl)).co hF (i := 70) (by kernel_rfl)).co hF (i := 69) (by kernel_rfl)).co hF (i := 68) (by kernel_rfl)).co hF (i := 67) (by kernel_rfl)).co hF (i := 66) (by kernel_rfl)).co hF (i := 65) (by kernel_rfl)).co hF (i := 64) (by kernel_rfl)).co hF (i := 63) (by kernel_rfl)).co hF (i := 62) (by kernel_rfl)).co hF (i := 61) (by kernel_rfl)).co hF (i := 60) (by kernel_rfl)).co hF (i := 59) (by kernel_rfl)).co hF (i := 58) (by kernel_rfl)).co hF (i := 9) (by kernel_rfl)).co hF (i := 8) (by kernel_rfl)).co hF (i := 7) (by kernel_rfl)).co hF (i := 6) (by kernel_rfl)).co hF (i := 5) (by kernel_rfl)).co hF (i := 3) (by kernel_rfl)).co hF (i := 1) (by kernel_rfl)).co hF (i := 0) (by kernel_rfl)), hM.drew.sub (((((((((Sub.nil.co (k := 12) (by kernel_rfl)).co (k := 11) (by kernel_rfl)).co (k := 10) (by kernel_rfl)).co (k := 9) (by kernel_rfl)).co (k := 8) (by kernel_rfl)).co (k := 7) (by kernel_rfl)).co (k := 6) (by kernel_rfl)).co (k := 5) (by kernel_rfl)).co (k := 2) (by kernel_rfl))⟩
    · refine stC ?_ (stC ?_ (stC ?_ (stC ?_ (stC ?_ (stC ?_ (stC ?_ (stC ?_ (stC ?_ (stC ?_ (stC ?_ (stC ?_ (trivial))))))))))))
      · intro s0 s1 s2 s3 s4 s5 s6 s7 s8 s9 s10 s11 hc hi hp a w hS
        obtain rfl : s0 = false := hi
        obtain ⟨bb10, AA11, cc11, bb12, hF, hM⟩ := hS
        refine eL 70 8 0 (v := .agg #[.int .i64 1, .int .i64 0]) hF hM (by kernel_rfl) rfl rfl (by kernel_rfl) (by kernel_rfl) fun a w hF hM => ?_
        exact ⟨bb10, AA11, cc11, bb12, ((hF.repl 20 (by kernel_rfl)).cast (by kernel_rfl)), (hM.cast (by kernel_rfl))⟩
      · intro s0 s1 s2 s3 s4 s5 s6 s7 s8 s9 s10 s11 hc hi hp a w hS
        obtain rfl : s1 = false := hi
        obtain ⟨bb10, AA11, cc11, bb12, hF, hM⟩ := hS
        refine eN 71 10 (t := 3) (fun b => .slice (some ⟨b, 0, none⟩) 2 2) #[.int .i64 5, .int .i64 0] hF hM (by kernel_rfl) (fun _ => by kernel_rfl) fun bb10 a w hF hM => ?_
        exact ⟨bb10, AA11, cc11, bb12, ((hF.repl 21 (by kernel_rfl)).cast (by kernel_rfl)), ((hM.repl 6 (by kernel_rfl)).cast (by kernel_rfl))⟩
      · intro s0 s1 s2 s3 s4 s5 s6 s7 s8 s9 s10 s11 hc hi hp a w hS
        obtain rfl : s2 = false := hi
        obtain rfl : s1 = true := hp 1 (by kernel_rfl)
        obtain ⟨bb10, AA11, cc11, bb12, hF, hM⟩ := hS
        refine sOwn 11 (f := 23) (args := #[.slice (some ⟨bb10, 0, none⟩) 2 2]) (mk := fun v => v) (e := 57) (size := 2) (m := 1) (xs := (flat2 ([(5, 0)]))) hF hM (by kernel_rfl) rfl (by decide) (by kernel_rfl) (fun _ => by kernel_rfl) (trace_w (some ⟨bb10, 0, none⟩) [5, 0] 2 w (hM.roRow (k := 10) rfl) (by decide)) fun AA11 cc11 a w hF hM => ?_
        exact ⟨bb10, AA11, cc11, bb12, ((hF.repl 22 (by kernel_rfl)).cast (by kernel_rfl)), ((hM.repl 7 (by kernel_rfl)).cast (by kernel_rfl))⟩
      · intro s0 s1 s2 s3 s4 s5 s6 s7 s8 s9 s10 s11 hc hi hp a w hS
        obtain rfl : s3 = false := hi
        obtain rfl : s2 = true := hp 2 (by kernel_rfl)
        obtain rfl : s0 = true := hp 0 (by kernel_rfl)
        obtain ⟨bb10, AA11, cc11, bb12, hF, hM⟩ := hS
        refine eM 73 (v := .tuple #[.slice none 0 0, .agg #[.int .i64 0, .int .i64 0], .int .i64 450]) hF hM (by kernel_rfl) (yld_call (f := 12) (args := #[.agg #[.int .i64 1, .int .i64 0], .slice AA11 1 cc11, .slice none 0 0]) hF (by kernel_rfl) (fun _ => by kernel_rfl) (fun w hM => crRun_err (by decide : runS 1 0 ([(5, 0)]) ([] : List Int) = (450, [], 0, 0)) (crRun_w 1 0 AA11 ([(5, 0)]) cc11 none ([] : List Int) 0 w (ro_of_own (hM.ok 11 _ rfl)) Ro.nil (by decide) (by decide)))) fun a w hF hM => ?_
        exact ⟨bb10, AA11, cc11, bb12, ((hF.repl 23 (by kernel_rfl)).cast (by kernel_rfl)), (hM.cast (by kernel_rfl))⟩
      · intro s0 s1 s2 s3 s4 s5 s6 s7 s8 s9 s10 s11 hc hi hp a w hS
        obtain rfl : s4 = false := hi
        obtain rfl : s3 = true := hp 3 (by kernel_rfl)
        obtain ⟨bb10, AA11, cc11, bb12, hF, hM⟩ := hS
        refine eP 69 (v0 := .tuple #[.slice none 0 0, .agg #[.int .i64 0, .int .i64 0], .int .i64 450]) (v := .tuple #[.slice none 0 0, .agg #[.int .i64 0, .int .i64 0], .int .i64 450]) hF (by kernel_rfl) (fun _ => by kernel_rfl) rfl fun a hF => ?_
        exact ⟨bb10, AA11, cc11, bb12, ((hF.repl 19 (by kernel_rfl)).cast (by kernel_rfl)), (hM.cast (by kernel_rfl))⟩
      · intro s0 s1 s2 s3 s4 s5 s6 s7 s8 s9 s10 s11 hc hi hp a w hS
        obtain rfl : s5 = false := hi
        obtain rfl : s4 = true := hp 4 (by kernel_rfl)
        obtain ⟨bb10, AA11, cc11, bb12, hF, hM⟩ := hS
        refine eP 74 (v0 := .slice none 0 0) (v := .slice none 0 0) hF (by kernel_rfl) (fun _ => by kernel_rfl) rfl fun a hF => ?_
        exact ⟨bb10, AA11, cc11, bb12, ((hF.repl 24 (by kernel_rfl)).cast (by kernel_rfl)), (hM.cast (by kernel_rfl))⟩
      · intro s0 s1 s2 s3 s4 s5 s6 s7 s8 s9 s10 s11 hc hi hp a w hS
        obtain rfl : s6 = false := hi
        obtain rfl : s4 = true := hp 4 (by kernel_rfl)
        obtain ⟨bb10, AA11, cc11, bb12, hF, hM⟩ := hS
        refine eP 75 (v0 := .agg #[.int .i64 0, .int .i64 0]) (v := .agg #[.int .i64 0, .int .i64 0]) hF (by kernel_rfl) (fun _ => by kernel_rfl) rfl fun a hF => ?_
        exact ⟨bb10, AA11, cc11, bb12, ((hF.repl 25 (by kernel_rfl)).cast (by kernel_rfl)), (hM.cast (by kernel_rfl))⟩
      · intro s0 s1 s2 s3 s4 s5 s6 s7 s8 s9 s10 s11 hc hi hp a w hS
        obtain rfl : s7 = false := hi
        obtain rfl : s4 = true := hp 4 (by kernel_rfl)
        obtain ⟨bb10, AA11, cc11, bb12, hF, hM⟩ := hS
        refine eP 76 (v0 := .int .i64 450) (v := .int .i64 450) hF (by kernel_rfl) (fun _ => by kernel_rfl) rfl fun a hF => ?_
        exact ⟨bb10, AA11, cc11, bb12, ((hF.repl 26 (by kernel_rfl)).cast (by kernel_rfl)), (hM.cast (by kernel_rfl))⟩
      · intro s0 s1 s2 s3 s4 s5 s6 s7 s8 s9 s10 s11 hc hi hp a w hS
        obtain rfl : s8 = false := hi
        obtain rfl : s10 = false := hc.f 10 8 (by kernel_rfl) rfl
        obtain ⟨bb10, AA11, cc11, bb12, hF, hM⟩ := hS
        refine eN 8 12 (t := 40) (fun b => .pointer (some ⟨b, 0, none⟩)) #[.int .i64 0, .int .i64 0] hF hM (by kernel_rfl) (fun _ => by kernel_rfl) fun bb12 a w hF hM => ?_
        exact ⟨bb10, AA11, cc11, bb12, ((hF.repl 6 (by kernel_rfl)).cast (by kernel_rfl)), ((hM.repl 8 (by kernel_rfl)).cast (by kernel_rfl))⟩
      · intro s0 s1 s2 s3 s4 s5 s6 s7 s8 s9 s10 s11 hc hi hp a w hS
        obtain rfl : s9 = false := hi
        obtain rfl : s5 = true := hp 5 (by kernel_rfl)
        obtain ⟨bb10, AA11, cc11, bb12, hF, hM⟩ := hS
        refine eP 7 (v0 := .slice none 0 0) (v := .slice none 0 0) hF (by kernel_rfl) (fun _ => by kernel_rfl) rfl fun a hF => ?_
        exact ⟨bb10, AA11, cc11, bb12, ((hF.repl 5 (by kernel_rfl)).cast (by kernel_rfl)), (hM.cast (by kernel_rfl))⟩
      · intro s0 s1 s2 s3 s4 s5 s6 s7 s8 s9 s10 s11 hc hi hp a w hS
        obtain rfl : s10 = false := hi
        obtain rfl : s8 = true := hp 8 (by kernel_rfl)
        obtain rfl : s6 = true := hp 6 (by kernel_rfl)
        obtain ⟨bb10, AA11, cc11, bb12, hF, hM⟩ := hS
        refine sStore (i := 12) (off := 0) (cs' := #[.int .i64 0, .int .i64 0]) hF hM (by kernel_rfl) rfl rfl (by kernel_rfl) (by kernel_rfl) rfl (by kernel_rfl) fun w hM => ?_
        exact ⟨bb10, AA11, cc11, bb12, (hF.cast (by kernel_rfl)), ((hM.repl 8 (by kernel_rfl)).cast (by kernel_rfl))⟩
      · intro s0 s1 s2 s3 s4 s5 s6 s7 s8 s9 s10 s11 hc hi hp a w hS
        obtain rfl : s11 = false := hi
        obtain rfl : s7 = true := hp 7 (by kernel_rfl)
        obtain ⟨bb10, AA11, cc11, bb12, hF, hM⟩ := hS
        refine eP 9 (v0 := .int .i64 450) (v := .int .i64 450) hF (by kernel_rfl) (fun _ => by kernel_rfl) rfl fun a hF => ?_
        exact ⟨bb10, AA11, cc11, bb12, ((hF.repl 7 (by kernel_rfl)).cast (by kernel_rfl)), (hM.cast (by kernel_rfl))⟩
    · intro a w hS
      obtain ⟨bb10, AA11, cc11, bb12, hF, hM⟩ := hS
      replace hF : Fr 283 [(0, some (.bool false)), (1, some (.pointer (some ⟨bb2, 0, none⟩))), (3, some (.pointer (some ⟨bb8, 0, none⟩))), (5, some (.pointer (some ⟨bb9, 0, none⟩))), (6, some (.int .i64 450)), (7, some (.slice none 0 0)), (8, some (.pointer (some ⟨bb12, 0, none⟩))), (9, some (.int .i64 450)), (58, some (.agg #[.int .i64 0, .int .i64 0, .int .i64 1, .int .i64 0, .int .i64 0, .int .i64 1, .int .i64 (-1), .int .i64 1, .int .i64 1, .int .i64 1001, .int .i64 1048576, .int .i64 1])), (59, some (.int .i64 1)), (60, some (.bool true)), (61, some (.agg #[.int .i64 1, .int .i64 0])), (62, some (.tuple #[.int .i64 0, .agg #[.int .i64 0, .int .i64 0], .int .i64 450])), (63, some (.agg #[.int .i64 1, .int .i64 0])), (64, some (.agg #[.int .i64 (-1), .int .i64 0])), (65, some (.tuple #[.int .i64 0, .agg #[.int .i64 0, .int .i64 0], .int .i64 450])), (66, some (.int .i64 0)), (67, some (.agg #[.int .i64 0, .int .i64 0])), (68, some (.int .i64 450)), (69, some (.tuple #[.slice none 0 0, .agg #[.int .i64 0, .int .i64 0], .int .i64 450])), (70, some (.agg #[.int .i64 1, .int .i64 0])), (71, some (.slice (some ⟨bb10, 0, none⟩) 2 2)), (72, some (.slice AA11 1 cc11)), (73, some (.tuple #[.slice none 0 0, .agg #[.int .i64 0, .int .i64 0], .int .i64 450])), (74, some (.slice none 0 0)), (75, some (.agg #[.int .i64 0, .int .i64 0])), (76, some (.int .i64 450)), (77, some (.agg #[.int .i64 0, .int .i64 0])), (78, some (.int .i64 450)), (79, some (.bool false)), (80, some (.bool false)), (81, some (.int .i64 450)), (82, some (.bool false)), (83, some (.bool false)), (84, some (.bool false)), (85, some (.int .i64 450)), (86, some (.bool false)), (87, some (.bool false)), (88, some (.int .i64 1))] a := hF.cast (by kernel_rfl)
      replace hM : Mem w0.heap.size w0 [(2, some (.row bb2 23 #[.int .i64 131072, .int .i64 2])), (5, some (.row bb5 3 #[.int .i64 5, .int .i64 0])), (6, some (.own (.slice AA6 1 cc6) 57 2 1 (flat2 ([(5, 0)])))), (7, some (.row bb7 40 #[.int .i64 0, .int .i64 0])), (8, some (.row bb8 23 #[.int .i64 1, .int .i64 0])), (9, some (.row bb9 40 #[.int .i64 0, .int .i64 0])), (10, some (.row bb10 3 #[.int .i64 5, .int .i64 0])), (11, some (.own (.slice AA11 1 cc11) 57 2 1 (flat2 ([(5, 0)])))), (12, some (.row bb12 40 #[.int .i64 0, .int .i64 0]))] w := hM.cast (by kernel_rfl)
      refine hK22 _ _ ?_
      refine wp_seq_k fun K23 hK23 => ?_
      refine wp_region_lit ?_
      refine wl (eL 77 8 0 (v := .agg #[.int .i64 1, .int .i64 0]) hF hM (by kernel_rfl) rfl rfl (by kernel_rfl) (by kernel_rfl) fun a w hF hM => ?_)
      refine wl (eM 78 (v := .int .i64 450) hF hM (by kernel_rfl) ((yld_call (f := 16) (args := #[.agg #[.int .i64 1, .int .i64 0]]) hF (by kernel_rfl) (fun _ => by kernel_rfl) (fun w hM => crCheck_w 1 0 w)).to (by kernel_rfl)) fun a w hF hM => ?_)
      refine wl (eP 79 (v0 := .bool (!decide (450 = 450))) (v := .bool false) hF (by kernel_rfl) (fun _ => by kernel_rfl) (nT (by omega)) fun a hF => ?_)
      refine sB 2 [(80, .bool false), (81, .int .i64 450)] hF (by kernel_rfl) fun a hF => ?_
      refine wl (eP 82 (v0 := .bool (!decide (450 = 450))) (v := .bool false) hF (by kernel_rfl) (fun _ => by kernel_rfl) (nT (by omega)) fun a hF => ?_)
      refine sB 3 [(83, .bool false), (84, .bool false), (85, .int .i64 450)] hF (by kernel_rfl) fun a hF => ?_
      refine wl (eP 86 (v0 := .bool (!decide (450 = 450))) (v := .bool false) hF (by kernel_rfl) (fun _ => by kernel_rfl) (nT (by omega)) fun a hF => ?_)
      refine sB 1 [(87, .bool false)] hF (by kernel_rfl) fun a hF => ?_
      refine wpList_nil ?_
      refine hK23 _ _ ?_
      refine cF hF (by kernel_rfl) (by kernel_rfl) ?_
      refine wp_skip ?_
      refine hK19 _ _ ?_
      refine wp_region_lit ?_
      refine wl (eP 88 (v0 := .int .i64 (IntKind.i64.wrap (1 + 1))) (v := .int .i64 2) hF (by kernel_rfl) (fun _ => by kernel_rfl) (vi (by decide)) fun a hF => ?_)
      refine sB 1 [(59, .int .i64 2)] hF (by kernel_rfl) fun a hF => ?_
      refine wpList_nil ?_
      refine hK16 _ _ ?_
      refine rounds_k fun K24 hK24 => ?_
      refine wp_seq_k fun K25 hK25 => ?_
      refine wp_region_lit ?_
      refine wl (eP 60 (v0 := .bool (decide (2 < 6))) (v := .bool true) hF (by kernel_rfl) (fun _ => by kernel_rfl) (bT (by omega)) fun a hF => ?_)
      refine wpList_nil ?_
      refine hK25 _ _ ?_
      refine wp_seq_k fun K26 hK26 => ?_
      refine cT hF (by kernel_rfl) (by kernel_rfl) ?_
      refine wp_skip ?_
      refine hK26 _ _ ?_
      refine wp_seq_k fun K27 hK27 => ?_
      refine wp_block ?_
      refine wp_seq_k fun K28 hK28 => ?_
      refine wp_region_lit ?_
      refine sB 1 [(61, .agg #[.int .i64 0, .int .i64 1])] hF (by kernel_rfl) fun a hF => ?_
      refine wl (eN 3 13 (t := 23) (fun b => .pointer (some ⟨b, 0, none⟩)) #[.int .i64 0, .int .i64 0] hF hM (by kernel_rfl) (fun _ => by kernel_rfl) fun bb13 a w hF hM => ?_)
      refine wl (sStore (i := 13) (off := 0) (cs' := #[.int .i64 0, .int .i64 1]) hF hM (by kernel_rfl) rfl rfl (by kernel_rfl) (by kernel_rfl) rfl (by kernel_rfl) fun w hM => ?_)
      refine wpList_nil ?_
      refine hK28 _ _ ?_
      refine wp_seq_k fun K29 hK29 => ?_
      refine wp_region_lit ?_
      refine wl (eL 63 13 0 (v := .agg #[.int .i64 0, .int .i64 1]) hF hM (by kernel_rfl) rfl rfl (by kernel_rfl) (by kernel_rfl) fun a w hF hM => ?_)
      refine sB 1 [(64, .agg #[.int .i64 (-1), .int .i64 0])] hF (by kernel_rfl) fun a hF => ?_
      refine wl (eM 65 (v := .tuple #[.int .i64 0, .agg #[.int .i64 0, .int .i64 0], .int .i64 450]) hF hM (by kernel_rfl) ((yld_call (f := 20) (args := #[.agg #[.int .i64 0, .int .i64 1], .agg #[.int .i64 (-1), .int .i64 0], .int .i64 (-1), .int .i64 (-1), .int .i64 0]) hF (by kernel_rfl) (fun _ => by kernel_rfl) (fun w hM => crStep_w 0 1 (-1) 0 (-1) (-1) 0 w)).to (by kernel_rfl)) fun a w hF hM => ?_)
      refine sB 4 [(62, .tuple #[.int .i64 0, .agg #[.int .i64 0, .int .i64 0], .int .i64 450]), (66, .int .i64 0), (67, .agg #[.int .i64 0, .int .i64 0]), (68, .int .i64 450)] hF (by kernel_rfl) fun a hF => ?_
      refine wl (eN 5 14 (t := 40) (fun b => .pointer (some ⟨b, 0, none⟩)) #[.int .i64 0, .int .i64 0] hF hM (by kernel_rfl) (fun _ => by kernel_rfl) fun bb14 a w hF hM => ?_)
      refine sB 1 [(4, .int .i64 0)] hF (by kernel_rfl) fun a hF => ?_
      refine wl (sStore (i := 14) (off := 0) (cs' := #[.int .i64 0, .int .i64 0]) hF hM (by kernel_rfl) rfl rfl (by kernel_rfl) (by kernel_rfl) rfl (by kernel_rfl) fun w hM => ?_)
      refine sB 1 [(6, .int .i64 450)] hF (by kernel_rfl) fun a hF => ?_
      refine wpList_nil ?_
      refine hK29 _ _ ?_
      refine wp_seq_k fun K30 hK30 => ?_
      refine rF (by kernel_rfl) (by kernel_rfl) (fun S a w => ∃ bb15 : Nat, ∃ AA16 : Option Addr, ∃ cc16 : Nat, ∃ bb17 : Nat, Fr 283 [(0, some (.bool false)), (1, some (.pointer (some ⟨bb2, 0, none⟩))), (3, some (.pointer (some ⟨bb13, 0, none⟩))), (5, some (.pointer (some ⟨bb14, 0, none⟩))), (6, some (.int .i64 450)), (7, (cond (S.getD 9 false) (some (.slice none 0 0)) (some (.slice none 0 0)))), (8, (cond (S.getD 8 false) (some (.pointer (some ⟨bb17, 0, none⟩))) (some (.pointer (some ⟨bb12, 0, none⟩))))), (9, (cond (S.getD 11 false) (some (.int .i64 450)) (some (.int .i64 450)))), (58, some (.agg #[.int .i64 0, .int .i64 0, .int .i64 1, .int .i64 0, .int .i64 0, .int .i64 1, .int .i64 (-1), .int .i64 1, .int .i64 1, .int .i64 1001, .int .i64 1048576, .int .i64 1])), (59, some (.int .i64 2)), (60, some (.bool true)), (61, some (.agg #[.int .i64 0, .int .i64 1])), (62, some (.tuple #[.int .i64 0, .agg #[.int .i64 0, .int .i64 0], .int .i64 450])), (63, some (.agg #[.int .i64 0, .int .i64 1])), (64, some (.agg #[.int .i64 (-1), .int .i64 0])), (65, some (.tuple #[.int .i64 0, .agg #[.int .i64 0, .int .i64 0], .int .i64 450])), (66, some (.int .i64 0)), (67, some (.agg #[.int .i64 0, .int .i64 0])), (68, some (.int .i64 450)), (69, (cond (S.getD 4 false) (some (.tuple #[.slice none 0 0, .agg #[.int .i64 0, .int .i64 0], .int .i64 450])) (some (.tuple #[.slice none 0 0, .agg #[.int .i64 0, .int .i64 0], .int .i64 450])))), (70, (cond (S.getD 0 false) (some (.agg #[.int .i64 0, .int .i64 1])) (some (.agg #[.int .i64 1, .int .i64 0])))), (71, (cond (S.getD 1 false) (some (.slice (some ⟨bb15, 0, none⟩) 2 2)) (some (.slice (some ⟨bb10, 0, none⟩) 2 2)))), (72, (cond (S.getD 2 false) (some (.slice AA16 1 cc16)) (some (.slice AA11 1 cc11)))), (73, (cond (S.getD 3 false) (some (.tuple #[.slice none 0 0, .agg #[.int .i64 0, .int .i64 0], .int .i64 450])) (some (.tuple #[.slice none 0 0, .agg #[.int .i64 0, .int .i64 0], .int .i64 450])))), (74, (cond (S.getD 5 false) (some (.slice none 0 0)) (some (.slice none 0 0)))), (75, (cond (S.getD 6 false) (some (.agg #[.int .i64 0, .int .i64 0])) (some (.agg #[.int .i64 0, .int .i64 0])))), (76, (cond (S.getD 7 false) (some (.int .i64 450)) (some (.int .i64 450)))), (77, some (.agg #[.int .i64 1, .int .i64 0])), (78, some (.int .i64 450)), (79, some (.bool false)), (80, some (.bool false)), (81, some (.int .i64 450)), (82, some (.bool false)), (83, some (.bool false)), (84, some (.bool false)), (85, some (.int .i64 450)), (86, some (.bool false)), (87, some (.bool false)), (88, some (.int .i64 2))] a ∧ Mem w0.heap.size w0 [(2, some (.row bb2 23 #[.int .i64 131072, .int .i64 2])), (10, some (.row bb10 3 #[.int .i64 5, .int .i64 0])), (11, some (.own (.slice AA11 1 cc11) 57 2 1 (flat2 ([(5, 0)])))), (12, some (.row bb12 40 #[.int .i64 0, .int .i64 0])), (13, some (.row bb13 23 #[.int .i64 0, .int .i64 1])), (14, some (.row bb14 40 #[.int .i64 0, .int .i64 0])), (15, (cond (S.getD 1 false) (some (.row bb15 3 #[.int .i64 5, .int .i64 0])) none)), (16, (cond (S.getD 2 false) (some (.own (.slice AA16 1 cc16) 57 2 1 (flat2 ([(5, 0)])))) none)), (17, (cond (S.getD 10 false) (some (.row bb17 40 #[.int .i64 0, .int .i64 0])) (cond (S.getD 8 false) (some (.row bb17 40 #[.int .i64 0, .int .i64 0])) none)))] w) ?_ ?_ ?_
      · exact ⟨0, none, 0, 0, ((((((((((((((((((((((((((((((((((((((((Fr.nil hF).co hF (i := 88) (by kernel_rfl)).co hF (i := 87) (by kernel_rfl)).co hF (i := 86) (by kernel_rfl)).co hF (i := 85) (by kernel_rfl)).co hF (i := 84) (by kernel_rfl)).co hF (i := 83) (by kernel_rfl)).co hF (i := 82) (by kernel_rfl)).co hF (i := 81) (by kernel_rfl)).co hF (i := 80) (by kernel_rfl)).co hF (i := 79) (by kernel_rfl)).co hF (i := 78) (by kernel_rfl)).co hF (i := 77) (by kernel_rfl)).co hF (i := 76) (by kernel_rfl)).co hF (i := 75) (by kernel_rfl)).co hF (i := 74) (by kernel_rfl)).co hF (i := 73) (by kernel_rfl)).co hF (i := 72) (by kernel_rfl)).co hF (i := 71) (by kernel_rfl)).co hF (i := 70) (by kernel_rfl)).co hF (i := 69) (by kernel_rfl)).co hF (i := 68) (by kernel_rfl)).co hF (i := 67) (by kernel_rfl)).co hF (i := 66) (by kernel_rfl)).co hF (i := 65) (by kernel_rfl)).co hF (i := 64) (by kernel_rfl)).co hF (i := 63) (by kernel_rfl)).co hF (i := 62) (by kernel_rfl)).co hF (i := 61) (by kernel_rfl)).co hF (i := 60) (by kernel_rfl)).co hF (i := 59) (by kernel_rfl)).co hF (i := 58) (by kernel_rfl)).co hF (i := 9) (by kernel_rfl)).co hF (i := 8) (by kernel_rfl)).co hF (i := 7) (by kernel_rfl)).co hF (i := 6) (by kernel_rfl)).co hF (i := 5) (by kernel_rfl)).co hF (i := 3) (by kernel_rfl)).co hF (i := 1) (by kernel_rfl)).co hF (i := 0) (by kernel_rfl)), hM.drew.sub (((((((((Sub.nil.co (k := 17) (by kernel_rfl)).co (k := 16) (by kernel_rfl)).co (k := 15) (by kernel_rfl)).co (k := 14) (by kernel_rfl)).co (k := 13) (by kernel_rfl)).co (k := 12) (by kernel_rfl)).co (k := 11) (by kernel_rfl)).co (k := 10) (by kernel_rfl)).co (k := 2) (by kernel_rfl))⟩
      · refine stC ?_ (stC ?_ (stC ?_ (stC ?_ (stC ?_ (stC ?_ (stC ?_ (stC ?_ (stC ?_ (stC ?_ (stC ?_ (stC ?_ (trivial))))))))))))
        · intro s0 s1 s2 s3 s4 s5 s6 s7 s8 s9 s10 s11 hc hi hp a w hS
          obtain rfl : s0 = false := hi
          obtain ⟨bb15, AA16, cc16, bb17, hF, hM⟩ := hS
          refine eL 70 13 0 (v := .agg #[.int .i64 0, .int .i64 1]) hF hM (by kernel_rfl) rfl rfl (by kernel_rfl) (by kernel_rfl) fun a w hF hM => ?_
          exact ⟨bb15, AA16, cc16, bb17, ((hF.repl 20 (by kernel_rfl)).cast (by kernel_rfl)), (hM.cast (by kernel_rfl))⟩
        · intro s0 s1 s2 s3 s4 s5 s6 s7 s8 s9 s10 s11 hc hi hp a w hS
          obtain rfl : s1 = false := hi
          obtain ⟨bb15, AA16, cc16, bb17, hF, hM⟩ := hS
          refine eN 71 15 (t := 3) (fun b => .slice (some ⟨b, 0, none⟩) 2 2) #[.int .i64 5, .int .i64 0] hF hM (by kernel_rfl) (fun _ => by kernel_rfl) fun bb15 a w hF hM => ?_
          exact ⟨bb15, AA16, cc16, bb17, ((hF.repl 21 (by kernel_rfl)).cast (by kernel_rfl)), ((hM.repl 6 (by kernel_rfl)).cast (by kernel_rfl))⟩
        · intro s0 s1 s2 s3 s4 s5 s6 s7 s8 s9 s10 s11 hc hi hp a w hS
          obtain rfl : s2 = false := hi
          obtain rfl : s1 = true := hp 1 (by kernel_rfl)
          obtain ⟨bb15, AA16, cc16, bb17, hF, hM⟩ := hS
          refine sOwn 16 (f := 23) (args := #[.slice (some ⟨bb15, 0, none⟩) 2 2]) (mk := fun v => v) (e := 57) (size := 2) (m := 1) (xs := (flat2 ([(5, 0)]))) hF hM (by kernel_rfl) rfl (by decide) (by kernel_rfl) (fun _ => by kernel_rfl) (trace_w (some ⟨bb15, 0, none⟩) [5, 0] 2 w (hM.roRow (k := 15) rfl) (by decide)) fun AA16 cc16 a w hF hM => ?_
          exact ⟨bb15, AA16, cc16, bb17, ((hF.repl 22 (by kernel_rfl)).cast (by kernel_rfl)), ((hM.repl 7 (by kernel_rfl)).cast (by kernel_rfl))⟩
        · intro s0 s1 s2 s3 s4 s5 s6 s7 s8 s9 s10 s11 hc hi hp a w hS
          obtain rfl : s3 = false := hi
          obtain rfl : s2 = true := hp 2 (by kernel_rfl)
          obtain rfl : s0 = true := hp 0 (by kernel_rfl)
          obtain ⟨bb15, AA16, cc16, bb17, hF, hM⟩ := hS
          refine eM 73 (v := .tuple #[.slice none 0 0, .agg #[.int .i64 0, .int .i64 0], .int .i64 450]) hF hM (by kernel_rfl) (yld_call (f := 12) (args := #[.agg #[.int .i64 0, .int .i64 1], .slice AA16 1 cc16, .slice none 0 0]) hF (by kernel_rfl) (fun _ => by kernel_rfl) (fun w hM => crRun_err (by decide : runS 0 1 ([(5, 0)]) ([] : List Int) = (450, [], 0, 0)) (crRun_w 0 1 AA16 ([(5, 0)]) cc16 none ([] : List Int) 0 w (ro_of_own (hM.ok 16 _ rfl)) Ro.nil (by decide) (by decide)))) fun a w hF hM => ?_
          exact ⟨bb15, AA16, cc16, bb17, ((hF.repl 23 (by kernel_rfl)).cast (by kernel_rfl)), (hM.cast (by kernel_rfl))⟩
        · intro s0 s1 s2 s3 s4 s5 s6 s7 s8 s9 s10 s11 hc hi hp a w hS
          obtain rfl : s4 = false := hi
          obtain rfl : s3 = true := hp 3 (by kernel_rfl)
          obtain ⟨bb15, AA16, cc16, bb17, hF, hM⟩ := hS
          refine eP 69 (v0 := .tuple #[.slice none 0 0, .agg #[.int .i64 0, .int .i64 0], .int .i64 450]) (v := .tuple #[.slice none 0 0, .agg #[.int .i64 0, .int .i64 0], .int .i64 450]) hF (by kernel_rfl) (fun _ => by kernel_rfl) rfl fun a hF => ?_
          exact ⟨bb15, AA16, cc16, bb17, ((hF.repl 19 (by kernel_rfl)).cast (by kernel_rfl)), (hM.cast (by kernel_rfl))⟩
        · intro s0 s1 s2 s3 s4 s5 s6 s7 s8 s9 s10 s11 hc hi hp a w hS
          obtain rfl : s5 = false := hi
          obtain rfl : s4 = true := hp 4 (by kernel_rfl)
          obtain ⟨bb15, AA16, cc16, bb17, hF, hM⟩ := hS
          refine eP 74 (v0 := .slice none 0 0) (v := .slice none 0 0) hF (by kernel_rfl) (fun _ => by kernel_rfl) rfl fun a hF => ?_
          exact ⟨bb15, AA16, cc16, bb17, ((hF.repl 24 (by kernel_rfl)).cast (by kernel_rfl)), (hM.cast (by kernel_rfl))⟩
        · intro s0 s1 s2 s3 s4 s5 s6 s7 s8 s9 s10 s11 hc hi hp a w hS
          obtain rfl : s6 = false := hi
          obtain rfl : s4 = true := hp 4 (by kernel_rfl)
          obtain ⟨bb15, AA16, cc16, bb17, hF, hM⟩ := hS
          refine eP 75 (v0 := .agg #[.int .i64 0, .int .i64 0]) (v := .agg #[.int .i64 0, .int .i64 0]) hF (by kernel_rfl) (fun _ => by kernel_rfl) rfl fun a hF => ?_
          exact ⟨bb15, AA16, cc16, bb17, ((hF.repl 25 (by kernel_rfl)).cast (by kernel_rfl)), (hM.cast (by kernel_rfl))⟩
        · intro s0 s1 s2 s3 s4 s5 s6 s7 s8 s9 s10 s11 hc hi hp a w hS
          obtain rfl : s7 = false := hi
          obtain rfl : s4 = true := hp 4 (by kernel_rfl)
          obtain ⟨bb15, AA16, cc16, bb17, hF, hM⟩ := hS
          refine eP 76 (v0 := .int .i64 450) (v := .int .i64 450) hF (by kernel_rfl) (fun _ => by kernel_rfl) rfl fun a hF => ?_
          exact ⟨bb15, AA16, cc16, bb17, ((hF.repl 26 (by kernel_rfl)).cast (by kernel_rfl)), (hM.cast (by kernel_rfl))⟩
        · intro s0 s1 s2 s3 s4 s5 s6 s7 s8 s9 s10 s11 hc hi hp a w hS
          obtain rfl : s8 = false := hi
          obtain rfl : s10 = false := hc.f 10 8 (by kernel_rfl) rfl
          obtain ⟨bb15, AA16, cc16, bb17, hF, hM⟩ := hS
          refine eN 8 17 (t := 40) (fun b => .pointer (some ⟨b, 0, none⟩)) #[.int .i64 0, .int .i64 0] hF hM (by kernel_rfl) (fun _ => by kernel_rfl) fun bb17 a w hF hM => ?_
          exact ⟨bb15, AA16, cc16, bb17, ((hF.repl 6 (by kernel_rfl)).cast (by kernel_rfl)), ((hM.repl 8 (by kernel_rfl)).cast (by kernel_rfl))⟩
        · intro s0 s1 s2 s3 s4 s5 s6 s7 s8 s9 s10 s11 hc hi hp a w hS
          obtain rfl : s9 = false := hi
          obtain rfl : s5 = true := hp 5 (by kernel_rfl)
          obtain ⟨bb15, AA16, cc16, bb17, hF, hM⟩ := hS
          refine eP 7 (v0 := .slice none 0 0) (v := .slice none 0 0) hF (by kernel_rfl) (fun _ => by kernel_rfl) rfl fun a hF => ?_
          exact ⟨bb15, AA16, cc16, bb17, ((hF.repl 5 (by kernel_rfl)).cast (by kernel_rfl)), (hM.cast (by kernel_rfl))⟩
        · intro s0 s1 s2 s3 s4 s5 s6 s7 s8 s9 s10 s11 hc hi hp a w hS
          obtain rfl : s10 = false := hi
          obtain rfl : s8 = true := hp 8 (by kernel_rfl)
          obtain rfl : s6 = true := hp 6 (by kernel_rfl)
          obtain ⟨bb15, AA16, cc16, bb17, hF, hM⟩ := hS
          refine sStore (i := 17) (off := 0) (cs' := #[.int .i64 0, .int .i64 0]) hF hM (by kernel_rfl) rfl rfl (by kernel_rfl) (by kernel_rfl) rfl (by kernel_rfl) fun w hM => ?_
          exact ⟨bb15, AA16, cc16, bb17, (hF.cast (by kernel_rfl)), ((hM.repl 8 (by kernel_rfl)).cast (by kernel_rfl))⟩
        · intro s0 s1 s2 s3 s4 s5 s6 s7 s8 s9 s10 s11 hc hi hp a w hS
          obtain rfl : s11 = false := hi
          obtain rfl : s7 = true := hp 7 (by kernel_rfl)
          obtain ⟨bb15, AA16, cc16, bb17, hF, hM⟩ := hS
          refine eP 9 (v0 := .int .i64 450) (v := .int .i64 450) hF (by kernel_rfl) (fun _ => by kernel_rfl) rfl fun a hF => ?_
          exact ⟨bb15, AA16, cc16, bb17, ((hF.repl 7 (by kernel_rfl)).cast (by kernel_rfl)), (hM.cast (by kernel_rfl))⟩
      · intro a w hS
        obtain ⟨bb15, AA16, cc16, bb17, hF, hM⟩ := hS
        replace hF : Fr 283 [(0, some (.bool false)), (1, some (.pointer (some ⟨bb2, 0, none⟩))), (3, some (.pointer (some ⟨bb13, 0, none⟩))), (5, some (.pointer (some ⟨bb14, 0, none⟩))), (6, some (.int .i64 450)), (7, some (.slice none 0 0)), (8, some (.pointer (some ⟨bb17, 0, none⟩))), (9, some (.int .i64 450)), (58, some (.agg #[.int .i64 0, .int .i64 0, .int .i64 1, .int .i64 0, .int .i64 0, .int .i64 1, .int .i64 (-1), .int .i64 1, .int .i64 1, .int .i64 1001, .int .i64 1048576, .int .i64 1])), (59, some (.int .i64 2)), (60, some (.bool true)), (61, some (.agg #[.int .i64 0, .int .i64 1])), (62, some (.tuple #[.int .i64 0, .agg #[.int .i64 0, .int .i64 0], .int .i64 450])), (63, some (.agg #[.int .i64 0, .int .i64 1])), (64, some (.agg #[.int .i64 (-1), .int .i64 0])), (65, some (.tuple #[.int .i64 0, .agg #[.int .i64 0, .int .i64 0], .int .i64 450])), (66, some (.int .i64 0)), (67, some (.agg #[.int .i64 0, .int .i64 0])), (68, some (.int .i64 450)), (69, some (.tuple #[.slice none 0 0, .agg #[.int .i64 0, .int .i64 0], .int .i64 450])), (70, some (.agg #[.int .i64 0, .int .i64 1])), (71, some (.slice (some ⟨bb15, 0, none⟩) 2 2)), (72, some (.slice AA16 1 cc16)), (73, some (.tuple #[.slice none 0 0, .agg #[.int .i64 0, .int .i64 0], .int .i64 450])), (74, some (.slice none 0 0)), (75, some (.agg #[.int .i64 0, .int .i64 0])), (76, some (.int .i64 450)), (77, some (.agg #[.int .i64 1, .int .i64 0])), (78, some (.int .i64 450)), (79, some (.bool false)), (80, some (.bool false)), (81, some (.int .i64 450)), (82, some (.bool false)), (83, some (.bool false)), (84, some (.bool false)), (85, some (.int .i64 450)), (86, some (.bool false)), (87, some (.bool false)), (88, some (.int .i64 2))] a := hF.cast (by kernel_rfl)
        replace hM : Mem w0.heap.size w0 [(2, some (.row bb2 23 #[.int .i64 131072, .int .i64 2])), (10, some (.row bb10 3 #[.int .i64 5, .int .i64 0])), (11, some (.own (.slice AA11 1 cc11) 57 2 1 (flat2 ([(5, 0)])))), (12, some (.row bb12 40 #[.int .i64 0, .int .i64 0])), (13, some (.row bb13 23 #[.int .i64 0, .int .i64 1])), (14, some (.row bb14 40 #[.int .i64 0, .int .i64 0])), (15, some (.row bb15 3 #[.int .i64 5, .int .i64 0])), (16, some (.own (.slice AA16 1 cc16) 57 2 1 (flat2 ([(5, 0)])))), (17, some (.row bb17 40 #[.int .i64 0, .int .i64 0]))] w := hM.cast (by kernel_rfl)
        refine hK30 _ _ ?_
        refine wp_seq_k fun K31 hK31 => ?_
        refine wp_region_lit ?_
        refine wl (eL 77 13 0 (v := .agg #[.int .i64 0, .int .i64 1]) hF hM (by kernel_rfl) rfl rfl (by kernel_rfl) (by kernel_rfl) fun a w hF hM => ?_)
        refine wl (eM 78 (v := .int .i64 450) hF hM (by kernel_rfl) ((yld_call (f := 16) (args := #[.agg #[.int .i64 0, .int .i64 1]]) hF (by kernel_rfl) (fun _ => by kernel_rfl) (fun w hM => crCheck_w 0 1 w)).to (by kernel_rfl)) fun a w hF hM => ?_)
        refine wl (eP 79 (v0 := .bool (!decide (450 = 450))) (v := .bool false) hF (by kernel_rfl) (fun _ => by kernel_rfl) (nT (by omega)) fun a hF => ?_)
        refine sB 2 [(80, .bool false), (81, .int .i64 450)] hF (by kernel_rfl) fun a hF => ?_
        refine wl (eP 82 (v0 := .bool (!decide (450 = 450))) (v := .bool false) hF (by kernel_rfl) (fun _ => by kernel_rfl) (nT (by omega)) fun a hF => ?_)
        refine sB 3 [(83, .bool false), (84, .bool false), (85, .int .i64 450)] hF (by kernel_rfl) fun a hF => ?_
        refine wl (eP 86 (v0 := .bool (!decide (450 = 450))) (v := .bool false) hF (by kernel_rfl) (fun _ => by kernel_rfl) (nT (by omega)) fun a hF => ?_)
        refine sB 1 [(87, .bool false)] hF (by kernel_rfl) fun a hF => ?_
        refine wpList_nil ?_
        refine hK31 _ _ ?_
        refine cF hF (by kernel_rfl) (by kernel_rfl) ?_
        refine wp_skip ?_
        refine hK27 _ _ ?_
        refine wp_region_lit ?_
        refine wl (eP 88 (v0 := .int .i64 (IntKind.i64.wrap (2 + 1))) (v := .int .i64 3) hF (by kernel_rfl) (fun _ => by kernel_rfl) (vi (by decide)) fun a hF => ?_)
        refine sB 1 [(59, .int .i64 3)] hF (by kernel_rfl) fun a hF => ?_
        refine wpList_nil ?_
        refine hK24 _ _ ?_
        refine rounds_k fun K32 hK32 => ?_
        refine wp_seq_k fun K33 hK33 => ?_
        refine wp_region_lit ?_
        refine wl (eP 60 (v0 := .bool (decide (3 < 6))) (v := .bool true) hF (by kernel_rfl) (fun _ => by kernel_rfl) (bT (by omega)) fun a hF => ?_)
        refine wpList_nil ?_
        refine hK33 _ _ ?_
        refine wp_seq_k fun K34 hK34 => ?_
        refine cT hF (by kernel_rfl) (by kernel_rfl) ?_
        refine wp_skip ?_
        refine hK34 _ _ ?_
        refine wp_seq_k fun K35 hK35 => ?_
        refine wp_block ?_
        refine wp_seq_k fun K36 hK36 => ?_
        refine wp_region_lit ?_
        refine sB 1 [(61, .agg #[.int .i64 (-1), .int .i64 1])] hF (by kernel_rfl) fun a hF => ?_
        refine wl (eN 3 18 (t := 23) (fun b => .pointer (some ⟨b, 0, none⟩)) #[.int .i64 0, .int .i64 0] hF hM (by kernel_rfl) (fun _ => by kernel_rfl) fun bb18 a w hF hM => ?_)
        refine wl (sStore (i := 18) (off := 0) (cs' := #[.int .i64 (-1), .int .i64 1]) hF hM (by kernel_rfl) rfl rfl (by kernel_rfl) (by kernel_rfl) rfl (by kernel_rfl) fun w hM => ?_)
        refine wpList_nil ?_
        refine hK36 _ _ ?_
        refine wp_seq_k fun K37 hK37 => ?_
        refine wp_region_lit ?_
        refine wl (eL 63 18 0 (v := .agg #[.int .i64 (-1), .int .i64 1]) hF hM (by kernel_rfl) rfl rfl (by kernel_rfl) (by kernel_rfl) fun a w hF hM => ?_)
        refine sB 1 [(64, .agg #[.int .i64 (-1), .int .i64 0])] hF (by kernel_rfl) fun a hF => ?_
        refine wl (eM 65 (v := .tuple #[.int .i64 0, .agg #[.int .i64 0, .int .i64 0], .int .i64 450]) hF hM (by kernel_rfl) ((yld_call (f := 20) (args := #[.agg #[.int .i64 (-1), .int .i64 1], .agg #[.int .i64 (-1), .int .i64 0], .int .i64 (-1), .int .i64 (-1), .int .i64 0]) hF (by kernel_rfl) (fun _ => by kernel_rfl) (fun w hM => crStep_w (-1) 1 (-1) 0 (-1) (-1) 0 w)).to (by kernel_rfl)) fun a w hF hM => ?_)
        refine sB 4 [(62, .tuple #[.int .i64 0, .agg #[.int .i64 0, .int .i64 0], .int .i64 450]), (66, .int .i64 0), (67, .agg #[.int .i64 0, .int .i64 0]), (68, .int .i64 450)] hF (by kernel_rfl) fun a hF => ?_
        refine wl (eN 5 19 (t := 40) (fun b => .pointer (some ⟨b, 0, none⟩)) #[.int .i64 0, .int .i64 0] hF hM (by kernel_rfl) (fun _ => by kernel_rfl) fun bb19 a w hF hM => ?_)
        refine sB 1 [(4, .int .i64 0)] hF (by kernel_rfl) fun a hF => ?_
        refine wl (sStore (i := 19) (off := 0) (cs' := #[.int .i64 0, .int .i64 0]) hF hM (by kernel_rfl) rfl rfl (by kernel_rfl) (by kernel_rfl) rfl (by kernel_rfl) fun w hM => ?_)
        refine sB 1 [(6, .int .i64 450)] hF (by kernel_rfl) fun a hF => ?_
        refine wpList_nil ?_
        refine hK37 _ _ ?_
        refine wp_seq_k fun K38 hK38 => ?_
        refine rF (by kernel_rfl) (by kernel_rfl) (fun S a w => ∃ bb20 : Nat, ∃ AA21 : Option Addr, ∃ cc21 : Nat, ∃ bb22 : Nat, Fr 283 [(0, some (.bool false)), (1, some (.pointer (some ⟨bb2, 0, none⟩))), (3, some (.pointer (some ⟨bb18, 0, none⟩))), (5, some (.pointer (some ⟨bb19, 0, none⟩))), (6, some (.int .i64 450)), (7, (cond (S.getD 9 false) (some (.slice none 0 0)) (some (.slice none 0 0)))), (8, (cond (S.getD 8 false) (some (.pointer (some ⟨bb22, 0, none⟩))) (some (.pointer (some ⟨bb17, 0, none⟩))))), (9, (cond (S.getD 11 false) (some (.int .i64 450)) (some (.int .i64 450)))), (58, some (.agg #[.int .i64 0, .int .i64 0, .int .i64 1, .int .i64 0, .int .i64 0, .int .i64 1, .int .i64 (-1), .int .i64 1, .int .i64 1, .int .i64 1001, .int .i64 1048576, .int .i64 1])), (59, some (.int .i64 3)), (60, some (.bool true)), (61, some (.agg #[.int .i64 (-1), .int .i64 1])), (62, some (.tuple #[.int .i64 0, .agg #[.int .i64 0, .int .i64 0], .int .i64 450])), (63, some (.agg #[.int .i64 (-1), .int .i64 1])), (64, some (.agg #[.int .i64 (-1), .int .i64 0])), (65, some (.tuple #[.int .i64 0, .agg #[.int .i64 0, .int .i64 0], .int .i64 450])), (66, some (.int .i64 0)), (67, some (.agg #[.int .i64 0, .int .i64 0])), (68, some (.int .i64 450)), (69, (cond (S.getD 4 false) (some (.tuple #[.slice none 0 0, .agg #[.int .i64 0, .int .i64 0], .int .i64 450])) (some (.tuple #[.slice none 0 0, .agg #[.int .i64 0, .int .i64 0], .int .i64 450])))), (70, (cond (S.getD 0 false) (some (.agg #[.int .i64 (-1), .int .i64 1])) (some (.agg #[.int .i64 0, .int .i64 1])))), (71, (cond (S.getD 1 false) (some (.slice (some ⟨bb20, 0, none⟩) 2 2)) (some (.slice (some ⟨bb15, 0, none⟩) 2 2)))), (72, (cond (S.getD 2 false) (some (.slice AA21 1 cc21)) (some (.slice AA16 1 cc16)))), (73, (cond (S.getD 3 false) (some (.tuple #[.slice none 0 0, .agg #[.int .i64 0, .int .i64 0], .int .i64 450])) (some (.tuple #[.slice none 0 0, .agg #[.int .i64 0, .int .i64 0], .int .i64 450])))), (74, (cond (S.getD 5 false) (some (.slice none 0 0)) (some (.slice none 0 0)))), (75, (cond (S.getD 6 false) (some (.agg #[.int .i64 0, .int .i64 0])) (some (.agg #[.int .i64 0, .int .i64 0])))), (76, (cond (S.getD 7 false) (some (.int .i64 450)) (some (.int .i64 450)))), (77, some (.agg #[.int .i64 0, .int .i64 1])), (78, some (.int .i64 450)), (79, some (.bool false)), (80, some (.bool false)), (81, some (.int .i64 450)), (82, some (.bool false)), (83, some (.bool false)), (84, some (.bool false)), (85, some (.int .i64 450)), (86, some (.bool false)), (87, some (.bool false)), (88, some (.int .i64 3))] a ∧ Mem w0.heap.size w0 [(2, some (.row bb2 23 #[.int .i64 131072, .int .i64 2])), (15, some (.row bb15 3 #[.int .i64 5, .int .i64 0])), (16, some (.own (.slice AA16 1 cc16) 57 2 1 (flat2 ([(5, 0)])))), (17, some (.row bb17 40 #[.int .i64 0, .int .i64 0])), (18, some (.row bb18 23 #[.int .i64 (-1), .int .i64 1])), (19, some (.row bb19 40 #[.int .i64 0, .int .i64 0])), (20, (cond (S.getD 1 false) (some (.row bb20 3 #[.int .i64 5, .int .i64 0])) none)), (21, (cond (S.getD 2 false) (some (.own (.slice AA21 1 cc21) 57 2 1 (flat2 ([(5, 0)])))) none)), (22, (cond (S.getD 10 false) (some (.row bb22 40 #[.int .i64 0, .int .i64 0])) (cond (S.getD 8 false) (some (.row bb22 40 #[.int .i64 0, .int .i64 0])) none)))] w) ?_ ?_ ?_
        · exact ⟨0, none, 0, 0, ((((((((((((((((((((((((((((((((((((((((Fr.nil hF).co hF (i := 88) (by kernel_rfl)).co hF (i := 87) (by kernel_rfl)).co hF (i := 86) (by kernel_rfl)).co hF (i := 85) (by kernel_rfl)).co hF (i := 84) (by kernel_rfl)).co hF (i := 83) (by kernel_rfl)).co hF (i := 82) (by kernel_rfl)).co hF (i := 81) (by kernel_rfl)).co hF (i := 80) (by kernel_rfl)).co hF (i := 79) (by kernel_rfl)).co hF (i := 78) (by kernel_rfl)).co hF (i := 77) (by kernel_rfl)).co hF (i := 76) (by kernel_rfl)).co hF (i := 75) (by kernel_rfl)).co hF (i := 74) (by kernel_rfl)).co hF (i := 73) (by kernel_rfl)).co hF (i := 72) (by kernel_rfl)).co hF (i := 71) (by kernel_rfl)).co hF (i := 70) (by kernel_rfl)).co hF (i := 69) (by kernel_rfl)).co hF (i := 68) (by kernel_rfl)).co hF (i := 67) (by kernel_rfl)).co hF (i := 66) (by kernel_rfl)).co hF (i := 65) (by kernel_rfl)).co hF (i := 64) (by kernel_rfl)).co hF (i := 63) (by kernel_rfl)).co hF (i := 62) (by kernel_rfl)).co hF (i := 61) (by kernel_rfl)).co hF (i := 60) (by kernel_rfl)).co hF (i := 59) (by kernel_rfl)).co hF (i := 58) (by kernel_rfl)).co hF (i := 9) (by kernel_rfl)).co hF (i := 8) (by kernel_rfl)).co hF (i := 7) (by kernel_rfl)).co hF (i := 6) (by kernel_rfl)).co hF (i := 5) (by kernel_rfl)).co hF (i := 3) (by kernel_rfl)).co hF (i := 1) (by kernel_rfl)).co hF (i := 0) (by kernel_rfl)), hM.drew.sub (((((((((Sub.nil.co (k := 22) (by kernel_rfl)).co (k := 21) (by kernel_rfl)).co (k := 20) (by kernel_rfl)).co (k := 19) (by kernel_rfl)).co (k := 18) (by kernel_rfl)).co (k := 17) (by kernel_rfl)).co (k := 16) (by kernel_rfl)).co (k := 15) (by kernel_rfl)).co (k := 2) (by kernel_rfl))⟩
        · refine stC ?_ (stC ?_ (stC ?_ (stC ?_ (stC ?_ (stC ?_ (stC ?_ (stC ?_ (stC ?_ (stC ?_ (stC ?_ (stC ?_ (trivial))))))))))))
          · intro s0 s1 s2 s3 s4 s5 s6 s7 s8 s9 s10 s11 hc hi hp a w hS
            obtain rfl : s0 = false := hi
            obtain ⟨bb20, AA21, cc21, bb22, hF, hM⟩ := hS
            refine eL 70 18 0 (v := .agg #[.int .i64 (-1), .int .i64 1]) hF hM (by kernel_rfl) rfl rfl (by kernel_rfl) (by kernel_rfl) fun a w hF hM => ?_
            exact ⟨bb20, AA21, cc21, bb22, ((hF.repl 20 (by kernel_rfl)).cast (by kernel_rfl)), (hM.cast (by kernel_rfl))⟩
          · intro s0 s1 s2 s3 s4 s5 s6 s7 s8 s9 s10 s11 hc hi hp a w hS
            obtain rfl : s1 = false := hi
            obtain ⟨bb20, AA21, cc21, bb22, hF, hM⟩ := hS
            refine eN 71 20 (t := 3) (fun b => .slice (some ⟨b, 0, none⟩) 2 2) #[.int .i64 5, .int .i64 0] hF hM (by kernel_rfl) (fun _ => by kernel_rfl) fun bb20 a w hF hM => ?_
            exact ⟨bb20, AA21, cc21, bb22, ((hF.repl 21 (by kernel_rfl)).cast (by kernel_rfl)), ((hM.repl 6 (by kernel_rfl)).cast (by kernel_rfl))⟩
          · intro s0 s1 s2 s3 s4 s5 s6 s7 s8 s9 s10 s11 hc hi hp a w hS
            obtain rfl : s2 = false := hi
            obtain rfl : s1 = true := hp 1 (by kernel_rfl)
            obtain ⟨bb20, AA21, cc21, bb22, hF, hM⟩ := hS
            refine sOwn 21 (f := 23) (args := #[.slice (some ⟨bb20, 0, none⟩) 2 2]) (mk := fun v => v) (e := 57) (size := 2) (m := 1) (xs := (flat2 ([(5, 0)]))) hF hM (by kernel_rfl) rfl (by decide) (by kernel_rfl) (fun _ => by kernel_rfl) (trace_w (some ⟨bb20, 0, none⟩) [5, 0] 2 w (hM.roRow (k := 20) rfl) (by decide)) fun AA21 cc21 a w hF hM => ?_
            exact ⟨bb20, AA21, cc21, bb22, ((hF.repl 22 (by kernel_rfl)).cast (by kernel_rfl)), ((hM.repl 7 (by kernel_rfl)).cast (by kernel_rfl))⟩
          · intro s0 s1 s2 s3 s4 s5 s6 s7 s8 s9 s10 s11 hc hi hp a w hS
            obtain rfl : s3 = false := hi
            obtain rfl : s2 = true := hp 2 (by kernel_rfl)
            obtain rfl : s0 = true := hp 0 (by kernel_rfl)
            obtain ⟨bb20, AA21, cc21, bb22, hF, hM⟩ := hS
            refine eM 73 (v := .tuple #[.slice none 0 0, .agg #[.int .i64 0, .int .i64 0], .int .i64 450]) hF hM (by kernel_rfl) (yld_call (f := 12) (args := #[.agg #[.int .i64 (-1), .int .i64 1], .slice AA21 1 cc21, .slice none 0 0]) hF (by kernel_rfl) (fun _ => by kernel_rfl) (fun w hM => crRun_err (by decide : runS (-1) 1 ([(5, 0)]) ([] : List Int) = (450, [], 0, 0)) (crRun_w (-1) 1 AA21 ([(5, 0)]) cc21 none ([] : List Int) 0 w (ro_of_own (hM.ok 21 _ rfl)) Ro.nil (by decide) (by decide)))) fun a w hF hM => ?_
            exact ⟨bb20, AA21, cc21, bb22, ((hF.repl 23 (by kernel_rfl)).cast (by kernel_rfl)), (hM.cast (by kernel_rfl))⟩
          · intro s0 s1 s2 s3 s4 s5 s6 s7 s8 s9 s10 s11 hc hi hp a w hS
            obtain rfl : s4 = false := hi
            obtain rfl : s3 = true := hp 3 (by kernel_rfl)
            obtain ⟨bb20, AA21, cc21, bb22, hF, hM⟩ := hS
            refine eP 69 (v0 := .tuple #[.slice none 0 0, .agg #[.int .i64 0, .int .i64 0], .int .i64 450]) (v := .tuple #[.slice none 0 0, .agg #[.int .i64 0, .int .i64 0], .int .i64 450]) hF (by kernel_rfl) (fun _ => by kernel_rfl) rfl fun a hF => ?_
            exact ⟨bb20, AA21, cc21, bb22, ((hF.repl 19 (by kernel_rfl)).cast (by kernel_rfl)), (hM.cast (by kernel_rfl))⟩
          · intro s0 s1 s2 s3 s4 s5 s6 s7 s8 s9 s10 s11 hc hi hp a w hS
            obtain rfl : s5 = false := hi
            obtain rfl : s4 = true := hp 4 (by kernel_rfl)
            obtain ⟨bb20, AA21, cc21, bb22, hF, hM⟩ := hS
            refine eP 74 (v0 := .slice none 0 0) (v := .slice none 0 0) hF (by kernel_rfl) (fun _ => by kernel_rfl) rfl fun a hF => ?_
            exact ⟨bb20, AA21, cc21, bb22, ((hF.repl 24 (by kernel_rfl)).cast (by kernel_rfl)), (hM.cast (by kernel_rfl))⟩
          · intro s0 s1 s2 s3 s4 s5 s6 s7 s8 s9 s10 s11 hc hi hp a w hS
            obtain rfl : s6 = false := hi
            obtain rfl : s4 = true := hp 4 (by kernel_rfl)
            obtain ⟨bb20, AA21, cc21, bb22, hF, hM⟩ := hS
            refine eP 75 (v0 := .agg #[.int .i64 0, .int .i64 0]) (v := .agg #[.int .i64 0, .int .i64 0]) hF (by kernel_rfl) (fun _ => by kernel_rfl) rfl fun a hF => ?_
            exact ⟨bb20, AA21, cc21, bb22, ((hF.repl 25 (by kernel_rfl)).cast (by kernel_rfl)), (hM.cast (by kernel_rfl))⟩
          · intro s0 s1 s2 s3 s4 s5 s6 s7 s8 s9 s10 s11 hc hi hp a w hS
            obtain rfl : s7 = false := hi
            obtain rfl : s4 = true := hp 4 (by kernel_rfl)
            obtain ⟨bb20, AA21, cc21, bb22, hF, hM⟩ := hS
            refine eP 76 (v0 := .int .i64 450) (v := .int .i64 450) hF (by kernel_rfl) (fun _ => by kernel_rfl) rfl fun a hF => ?_
            exact ⟨bb20, AA21, cc21, bb22, ((hF.repl 26 (by kernel_rfl)).cast (by kernel_rfl)), (hM.cast (by kernel_rfl))⟩
          · intro s0 s1 s2 s3 s4 s5 s6 s7 s8 s9 s10 s11 hc hi hp a w hS
            obtain rfl : s8 = false := hi
            obtain rfl : s10 = false := hc.f 10 8 (by kernel_rfl) rfl
            obtain ⟨bb20, AA21, cc21, bb22, hF, hM⟩ := hS
            refine eN 8 22 (t := 40) (fun b => .pointer (some ⟨b, 0, none⟩)) #[.int .i64 0, .int .i64 0] hF hM (by kernel_rfl) (fun _ => by kernel_rfl) fun bb22 a w hF hM => ?_
            exact ⟨bb20, AA21, cc21, bb22, ((hF.repl 6 (by kernel_rfl)).cast (by kernel_rfl)), ((hM.repl 8 (by kernel_rfl)).cast (by kernel_rfl))⟩
          · intro s0 s1 s2 s3 s4 s5 s6 s7 s8 s9 s10 s11 hc hi hp a w hS
            obtain rfl : s9 = false := hi
            obtain rfl : s5 = true := hp 5 (by kernel_rfl)
            obtain ⟨bb20, AA21, cc21, bb22, hF, hM⟩ := hS
            refine eP 7 (v0 := .slice none 0 0) (v := .slice none 0 0) hF (by kernel_rfl) (fun _ => by kernel_rfl) rfl fun a hF => ?_
            exact ⟨bb20, AA21, cc21, bb22, ((hF.repl 5 (by kernel_rfl)).cast (by kernel_rfl)), (hM.cast (by kernel_rfl))⟩
          · intro s0 s1 s2 s3 s4 s5 s6 s7 s8 s9 s10 s11 hc hi hp a w hS
            obtain rfl : s10 = false := hi
            obtain rfl : s8 = true := hp 8 (by kernel_rfl)
            obtain rfl : s6 = true := hp 6 (by kernel_rfl)
            obtain ⟨bb20, AA21, cc21, bb22, hF, hM⟩ := hS
            refine sStore (i := 22) (off := 0) (cs' := #[.int .i64 0, .int .i64 0]) hF hM (by kernel_rfl) rfl rfl (by kernel_rfl) (by kernel_rfl) rfl (by kernel_rfl) fun w hM => ?_
            exact ⟨bb20, AA21, cc21, bb22, (hF.cast (by kernel_rfl)), ((hM.repl 8 (by kernel_rfl)).cast (by kernel_rfl))⟩
          · intro s0 s1 s2 s3 s4 s5 s6 s7 s8 s9 s10 s11 hc hi hp a w hS
            obtain rfl : s11 = false := hi
            obtain rfl : s7 = true := hp 7 (by kernel_rfl)
            obtain ⟨bb20, AA21, cc21, bb22, hF, hM⟩ := hS
            refine eP 9 (v0 := .int .i64 450) (v := .int .i64 450) hF (by kernel_rfl) (fun _ => by kernel_rfl) rfl fun a hF => ?_
            exact ⟨bb20, AA21, cc21, bb22, ((hF.repl 7 (by kernel_rfl)).cast (by kernel_rfl)), (hM.cast (by kernel_rfl))⟩
        · intro a w hS
          obtain ⟨bb20, AA21, cc21, bb22, hF, hM⟩ := hS
          replace hF : Fr 283 [(0, some (.bool false)), (1, some (.pointer (some ⟨bb2, 0, none⟩))), (3, some (.pointer (some ⟨bb18, 0, none⟩))), (5, some (.pointer (some ⟨bb19, 0, none⟩))), (6, some (.int .i64 450)), (7, some (.slice none 0 0)), (8, some (.pointer (some ⟨bb22, 0, none⟩))), (9, some (.int .i64 450)), (58, some (.agg #[.int .i64 0, .int .i64 0, .int .i64 1, .int .i64 0, .int .i64 0, .int .i64 1, .int .i64 (-1), .int .i64 1, .int .i64 1, .int .i64 1001, .int .i64 1048576, .int .i64 1])), (59, some (.int .i64 3)), (60, some (.bool true)), (61, some (.agg #[.int .i64 (-1), .int .i64 1])), (62, some (.tuple #[.int .i64 0, .agg #[.int .i64 0, .int .i64 0], .int .i64 450])), (63, some (.agg #[.int .i64 (-1), .int .i64 1])), (64, some (.agg #[.int .i64 (-1), .int .i64 0])), (65, some (.tuple #[.int .i64 0, .agg #[.int .i64 0, .int .i64 0], .int .i64 450])), (66, some (.int .i64 0)), (67, some (.agg #[.int .i64 0, .int .i64 0])), (68, some (.int .i64 450)), (69, some (.tuple #[.slice none 0 0, .agg #[.int .i64 0, .int .i64 0], .int .i64 450])), (70, some (.agg #[.int .i64 (-1), .int .i64 1])), (71, some (.slice (some ⟨bb20, 0, none⟩) 2 2)), (72, some (.slice AA21 1 cc21)), (73, some (.tuple #[.slice none 0 0, .agg #[.int .i64 0, .int .i64 0], .int .i64 450])), (74, some (.slice none 0 0)), (75, some (.agg #[.int .i64 0, .int .i64 0])), (76, some (.int .i64 450)), (77, some (.agg #[.int .i64 0, .int .i64 1])), (78, some (.int .i64 450)), (79, some (.bool false)), (80, some (.bool false)), (81, some (.int .i64 450)), (82, some (.bool false)), (83, some (.bool false)), (84, some (.bool false)), (85, some (.int .i64 450)), (86, some (.bool false)), (87, some (.bool false)), (88, some (.int .i64 3))] a := hF.cast (by kernel_rfl)
          replace hM : Mem w0.heap.size w0 [(2, some (.row bb2 23 #[.int .i64 131072, .int .i64 2])), (15, some (.row bb15 3 #[.int .i64 5, .int .i64 0])), (16, some (.own (.slice AA16 1 cc16) 57 2 1 (flat2 ([(5, 0)])))), (17, some (.row bb17 40 #[.int .i64 0, .int .i64 0])), (18, some (.row bb18 23 #[.int .i64 (-1), .int .i64 1])), (19, some (.row bb19 40 #[.int .i64 0, .int .i64 0])), (20, some (.row bb20 3 #[.int .i64 5, .int .i64 0])), (21, some (.own (.slice AA21 1 cc21) 57 2 1 (flat2 ([(5, 0)])))), (22, some (.row bb22 40 #[.int .i64 0, .int .i64 0]))] w := hM.cast (by kernel_rfl)
          refine hK38 _ _ ?_
          refine wp_seq_k fun K39 hK39 => ?_
          refine wp_region_lit ?_
          refine wl (eL 77 18 0 (v := .agg #[.int .i64 (-1), .int .i64 1]) hF hM (by kernel_rfl) rfl rfl (by kernel_rfl) (by kernel_rfl) fun a w hF hM => ?_)
          refine wl (eM 78 (v := .int .i64 450) hF hM (by kernel_rfl) ((yld_call (f := 16) (args := #[.agg #[.int .i64 (-1), .int .i64 1]]) hF (by kernel_rfl) (fun _ => by kernel_rfl) (fun w hM => crCheck_w (-1) 1 w)).to (by kernel_rfl)) fun a w hF hM => ?_)
          refine wl (eP 79 (v0 := .bool (!decide (450 = 450))) (v := .bool false) hF (by kernel_rfl) (fun _ => by kernel_rfl) (nT (by omega)) fun a hF => ?_)
          refine sB 2 [(80, .bool false), (81, .int .i64 450)] hF (by kernel_rfl) fun a hF => ?_
          refine wl (eP 82 (v0 := .bool (!decide (450 = 450))) (v := .bool false) hF (by kernel_rfl) (fun _ => by kernel_rfl) (nT (by omega)) fun a hF => ?_)
          refine sB 3 [(83, .bool false), (84, .bool false), (85, .int .i64 450)] hF (by kernel_rfl) fun a hF => ?_
          refine wl (eP 86 (v0 := .bool (!decide (450 = 450))) (v := .bool false) hF (by kernel_rfl) (fun _ => by kernel_rfl) (nT (by omega)) fun a hF => ?_)
          refine sB 1 [(87, .bool false)] hF (by kernel_rfl) fun a hF => ?_
          refine wpList_nil ?_
          refine hK39 _ _ ?_
          refine cF hF (by kernel_rfl) (by kernel_rfl) ?_
          refine wp_skip ?_
          refine hK35 _ _ ?_
          refine wp_region_lit ?_
          refine wl (eP 88 (v0 := .int .i64 (IntKind.i64.wrap (3 + 1))) (v := .int .i64 4) hF (by kernel_rfl) (fun _ => by kernel_rfl) (vi (by decide)) fun a hF => ?_)
          refine sB 1 [(59, .int .i64 4)] hF (by kernel_rfl) fun a hF => ?_
          refine wpList_nil ?_
          refine hK32 _ _ ?_
          refine rounds_k fun K40 hK40 => ?_
          refine wp_seq_k fun K41 hK41 => ?_
          refine wp_region_lit ?_
          refine wl (eP 60 (v0 := .bool (decide (4 < 6))) (v := .bool true) hF (by kernel_rfl) (fun _ => by kernel_rfl) (bT (by omega)) fun a hF => ?_)
          refine wpList_nil ?_
          refine hK41 _ _ ?_
          refine wp_seq_k fun K42 hK42 => ?_
          refine cT hF (by kernel_rfl) (by kernel_rfl) ?_
          refine wp_skip ?_
          refine hK42 _ _ ?_
          refine wp_seq_k fun K43 hK43 => ?_
          refine wp_block ?_
          refine wp_seq_k fun K44 hK44 => ?_
          refine wp_region_lit ?_
          refine sB 1 [(61, .agg #[.int .i64 1, .int .i64 1001])] hF (by kernel_rfl) fun a hF => ?_
          refine wl (eN 3 23 (t := 23) (fun b => .pointer (some ⟨b, 0, none⟩)) #[.int .i64 0, .int .i64 0] hF hM (by kernel_rfl) (fun _ => by kernel_rfl) fun bb23 a w hF hM => ?_)
          refine wl (sStore (i := 23) (off := 0) (cs' := #[.int .i64 1, .int .i64 1001]) hF hM (by kernel_rfl) rfl rfl (by kernel_rfl) (by kernel_rfl) rfl (by kernel_rfl) fun w hM => ?_)
          refine wpList_nil ?_
          refine hK44 _ _ ?_
          refine wp_seq_k fun K45 hK45 => ?_
          refine wp_region_lit ?_
          refine wl (eL 63 23 0 (v := .agg #[.int .i64 1, .int .i64 1001]) hF hM (by kernel_rfl) rfl rfl (by kernel_rfl) (by kernel_rfl) fun a w hF hM => ?_)
          refine sB 1 [(64, .agg #[.int .i64 (-1), .int .i64 0])] hF (by kernel_rfl) fun a hF => ?_
          refine wl (eM 65 (v := .tuple #[.int .i64 0, .agg #[.int .i64 0, .int .i64 0], .int .i64 450]) hF hM (by kernel_rfl) ((yld_call (f := 20) (args := #[.agg #[.int .i64 1, .int .i64 1001], .agg #[.int .i64 (-1), .int .i64 0], .int .i64 (-1), .int .i64 (-1), .int .i64 0]) hF (by kernel_rfl) (fun _ => by kernel_rfl) (fun w hM => crStep_w 1 1001 (-1) 0 (-1) (-1) 0 w)).to (by kernel_rfl)) fun a w hF hM => ?_)
          refine sB 4 [(62, .tuple #[.int .i64 0, .agg #[.int .i64 0, .int .i64 0], .int .i64 450]), (66, .int .i64 0), (67, .agg #[.int .i64 0, .int .i64 0]), (68, .int .i64 450)] hF (by kernel_rfl) fun a hF => ?_
          refine wl (eN 5 24 (t := 40) (fun b => .pointer (some ⟨b, 0, none⟩)) #[.int .i64 0, .int .i64 0] hF hM (by kernel_rfl) (fun _ => by kernel_rfl) fun bb24 a w hF hM => ?_)
          refine sB 1 [(4, .int .i64 0)] hF (by kernel_rfl) fun a hF => ?_
          refine wl (sStore (i := 24) (off := 0) (cs' := #[.int .i64 0, .int .i64 0]) hF hM (by kernel_rfl) rfl rfl (by kernel_rfl) (by kernel_rfl) rfl (by kernel_rfl) fun w hM => ?_)
          refine sB 1 [(6, .int .i64 450)] hF (by kernel_rfl) fun a hF => ?_
          refine wpList_nil ?_
          refine hK45 _ _ ?_
          refine wp_seq_k fun K46 hK46 => ?_
          refine rF (by kernel_rfl) (by kernel_rfl) (fun S a w => ∃ bb25 : Nat, ∃ AA26 : Option Addr, ∃ cc26 : Nat, ∃ bb27 : Nat, Fr 283 [(0, some (.bool false)), (1, some (.pointer (some ⟨bb2, 0, none⟩))), (3, some (.pointer (some ⟨bb23, 0, none⟩))), (5, some (.pointer (some ⟨bb24, 0, none⟩))), (6, some (.int .i64 450)), (7, (cond (S.getD 9 false) (some (.slice none 0 0)) (some (.slice none 0 0)))), (8, (cond (S.getD 8 false) (some (.pointer (some ⟨bb27, 0, none⟩))) (some (.pointer (some ⟨bb22, 0, none⟩))))), (9, (cond (S.getD 11 false) (some (.int .i64 450)) (some (.int .i64 450)))), (58, some (.agg #[.int .i64 0, .int .i64 0, .int .i64 1, .int .i64 0, .int .i64 0, .int .i64 1, .int .i64 (-1), .int .i64 1, .int .i64 1, .int .i64 1001, .int .i64 1048576, .int .i64 1])), (59, some (.int .i64 4)), (60, some (.bool true)), (61, some (.agg #[.int .i64 1, .int .i64 1001])), (62, some (.tuple #[.int .i64 0, .agg #[.int .i64 0, .int .i64 0], .int .i64 450])), (63, some (.agg #[.int .i64 1, .int .i64 1001])), (64, some (.agg #[.int .i64 (-1), .int .i64 0])), (65, some (.tuple #[.int .i64 0, .agg #[.int .i64 0, .int .i64 0], .int .i64 450])), (66, some (.int .i64 0)), (67, some (.agg #[.int .i64 0, .int .i64 0])), (68, some (.int .i64 450)), (69, (cond (S.getD 4 false) (some (.tuple #[.slice none 0 0, .agg #[.int .i64 0, .int .i64 0], .int .i64 450])) (some (.tuple #[.slice none 0 0, .agg #[.int .i64 0, .int .i64 0], .int .i64 450])))), (70, (cond (S.getD 0 false) (some (.agg #[.int .i64 1, .int .i64 1001])) (some (.agg #[.int .i64 (-1), .int .i64 1])))), (71, (cond (S.getD 1 false) (some (.slice (some ⟨bb25, 0, none⟩) 2 2)) (some (.slice (some ⟨bb20, 0, none⟩) 2 2)))), (72, (cond (S.getD 2 false) (some (.slice AA26 1 cc26)) (some (.slice AA21 1 cc21)))), (73, (cond (S.getD 3 false) (some (.tuple #[.slice none 0 0, .agg #[.int .i64 0, .int .i64 0], .int .i64 450])) (some (.tuple #[.slice none 0 0, .agg #[.int .i64 0, .int .i64 0], .int .i64 450])))), (74, (cond (S.getD 5 false) (some (.slice none 0 0)) (some (.slice none 0 0)))), (75, (cond (S.getD 6 false) (some (.agg #[.int .i64 0, .int .i64 0])) (some (.agg #[.int .i64 0, .int .i64 0])))), (76, (cond (S.getD 7 false) (some (.int .i64 450)) (some (.int .i64 450)))), (77, some (.agg #[.int .i64 (-1), .int .i64 1])), (78, some (.int .i64 450)), (79, some (.bool false)), (80, some (.bool false)), (81, some (.int .i64 450)), (82, some (.bool false)), (83, some (.bool false)), (84, some (.bool false)), (85, some (.int .i64 450)), (86, some (.bool false)), (87, some (.bool false)), (88, some (.int .i64 4))] a ∧ Mem w0.heap.size w0 [(2, some (.row bb2 23 #[.int .i64 131072, .int .i64 2])), (20, some (.row bb20 3 #[.int .i64 5, .int .i64 0])), (21, some (.own (.slice AA21 1 cc21) 57 2 1 (flat2 ([(5, 0)])))), (22, some (.row bb22 40 #[.int .i64 0, .int .i64 0])), (23, some (.row bb23 23 #[.int .i64 1, .int .i64 1001])), (24, some (.row bb24 40 #[.int .i64 0, .int .i64 0])), (25, (cond (S.getD 1 false) (some (.row bb25 3 #[.int .i64 5, .int .i64 0])) none)), (26, (cond (S.getD 2 false) (some (.own (.slice AA26 1 cc26) 57 2 1 (flat2 ([(5, 0)])))) none)), (27, (cond (S.getD 10 false) (some (.row bb27 40 #[.int .i64 0, .int .i64 0])) (cond (S.getD 8 false) (some (.row bb27 40 #[.int .i64 0, .int .i64 0])) none)))] w) ?_ ?_ ?_
          · exact ⟨0, none, 0, 0, ((((((((((((((((((((((((((((((((((((((((Fr.nil hF).co hF (i := 88) (by kernel_rfl)).co hF (i := 87) (by kernel_rfl)).co hF (i := 86) (by kernel_rfl)).co hF (i := 85) (by kernel_rfl)).co hF (i := 84) (by kernel_rfl)).co hF (i := 83) (by kernel_rfl)).co hF (i := 82) (by kernel_rfl)).co hF (i := 81) (by kernel_rfl)).co hF (i := 80) (by kernel_rfl)).co hF (i := 79) (by kernel_rfl)).co hF (i := 78) (by kernel_rfl)).co hF (i := 77) (by kernel_rfl)).co hF (i := 76) (by kernel_rfl)).co hF (i := 75) (by kernel_rfl)).co hF (i := 74) (by kernel_rfl)).co hF (i := 73) (by kernel_rfl)).co hF (i := 72) (by kernel_rfl)).co hF (i := 71) (by kernel_rfl)).co hF (i := 70) (by kernel_rfl)).co hF (i := 69) (by kernel_rfl)).co hF (i := 68) (by kernel_rfl)).co hF (i := 67) (by kernel_rfl)).co hF (i := 66) (by kernel_rfl)).co hF (i := 65) (by kernel_rfl)).co hF (i := 64) (by kernel_rfl)).co hF (i := 63) (by kernel_rfl)).co hF (i := 62) (by kernel_rfl)).co hF (i := 61) (by kernel_rfl)).co hF (i := 60) (by kernel_rfl)).co hF (i := 59) (by kernel_rfl)).co hF (i := 58) (by kernel_rfl)).co hF (i := 9) (by kernel_rfl)).co hF (i := 8) (by kernel_rfl)).co hF (i := 7) (by kernel_rfl)).co hF (i := 6) (by kernel_rfl)).co hF (i := 5) (by kernel_rfl)).co hF (i := 3) (by kernel_rfl)).co hF (i := 1) (by kernel_rfl)).co hF (i := 0) (by kernel_rfl)), hM.drew.sub (((((((((Sub.nil.co (k := 27) (by kernel_rfl)).co (k := 26) (by kernel_rfl)).co (k := 25) (by kernel_rfl)).co (k := 24) (by kernel_rfl)).co (k := 23) (by kernel_rfl)).co (k := 22) (by kernel_rfl)).co (k := 21) (by kernel_rfl)).co (k := 20) (by kernel_rfl)).co (k := 2) (by kernel_rfl))⟩
          · refine stC ?_ (stC ?_ (stC ?_ (stC ?_ (stC ?_ (stC ?_ (stC ?_ (stC ?_ (stC ?_ (stC ?_ (stC ?_ (stC ?_ (trivial))))))))))))
            · intro s0 s1 s2 s3 s4 s5 s6 s7 s8 s9 s10 s11 hc hi hp a w hS
              obtain rfl : s0 = false := hi
              obtain ⟨bb25, AA26, cc26, bb27, hF, hM⟩ := hS
              refine eL 70 23 0 (v := .agg #[.int .i64 1, .int .i64 1001]) hF hM (by kernel_rfl) rfl rfl (by kernel_rfl) (by kernel_rfl) fun a w hF hM => ?_
              exact ⟨bb25, AA26, cc26, bb27, ((hF.repl 20 (by kernel_rfl)).cast (by kernel_rfl)), (hM.cast (by kernel_rfl))⟩
            · intro s0 s1 s2 s3 s4 s5 s6 s7 s8 s9 s10 s11 hc hi hp a w hS
              obtain rfl : s1 = false := hi
              obtain ⟨bb25, AA26, cc26, bb27, hF, hM⟩ := hS
              refine eN 71 25 (t := 3) (fun b => .slice (some ⟨b, 0, none⟩) 2 2) #[.int .i64 5, .int .i64 0] hF hM (by kernel_rfl) (fun _ => by kernel_rfl) fun bb25 a w hF hM => ?_
              exact ⟨bb25, AA26, cc26, bb27, ((hF.repl 21 (by kernel_rfl)).cast (by kernel_rfl)), ((hM.repl 6 (by kernel_rfl)).cast (by kernel_rfl))⟩
            · intro s0 s1 s2 s3 s4 s5 s6 s7 s8 s9 s10 s11 hc hi hp a w hS
              obtain rfl : s2 = false := hi
              obtain rfl : s1 = true := hp 1 (by kernel_rfl)
              obtain ⟨bb25, AA26, cc26, bb27, hF, hM⟩ := hS
              refine sOwn 26 (f := 23) (args := #[.slice (some ⟨bb25, 0, none⟩) 2 2]) (mk := fun v => v) (e := 57) (size := 2) (m := 1) (xs := (flat2 ([(5, 0)]))) hF hM (by kernel_rfl) rfl (by decide) (by kernel_rfl) (fun _ => by kernel_rfl) (trace_w (some ⟨bb25, 0, none⟩) [5, 0] 2 w (hM.roRow (k := 25) rfl) (by decide)) fun AA26 cc26 a w hF hM => ?_
              exact ⟨bb25, AA26, cc26, bb27, ((hF.repl 22 (by kernel_rfl)).cast (by kernel_rfl)), ((hM.repl 7 (by kernel_rfl)).cast (by kernel_rfl))⟩
            · intro s0 s1 s2 s3 s4 s5 s6 s7 s8 s9 s10 s11 hc hi hp a w hS
              obtain rfl : s3 = false := hi
              obtain rfl : s2 = true := hp 2 (by kernel_rfl)
              obtain rfl : s0 = true := hp 0 (by kernel_rfl)
              obtain ⟨bb25, AA26, cc26, bb27, hF, hM⟩ := hS
              refine eM 73 (v := .tuple #[.slice none 0 0, .agg #[.int .i64 0, .int .i64 0], .int .i64 450]) hF hM (by kernel_rfl) (yld_call (f := 12) (args := #[.agg #[.int .i64 1, .int .i64 1001], .slice AA26 1 cc26, .slice none 0 0]) hF (by kernel_rfl) (fun _ => by kernel_rfl) (fun w hM => crRun_err (by decide : runS 1 1001 ([(5, 0)]) ([] : List Int) = (450, [], 0, 0)) (crRun_w 1 1001 AA26 ([(5, 0)]) cc26 none ([] : List Int) 0 w (ro_of_own (hM.ok 26 _ rfl)) Ro.nil (by decide) (by decide)))) fun a w hF hM => ?_
              exact ⟨bb25, AA26, cc26, bb27, ((hF.repl 23 (by kernel_rfl)).cast (by kernel_rfl)), (hM.cast (by kernel_rfl))⟩
            · intro s0 s1 s2 s3 s4 s5 s6 s7 s8 s9 s10 s11 hc hi hp a w hS
              obtain rfl : s4 = false := hi
              obtain rfl : s3 = true := hp 3 (by kernel_rfl)
              obtain ⟨bb25, AA26, cc26, bb27, hF, hM⟩ := hS
              refine eP 69 (v0 := .tuple #[.slice none 0 0, .agg #[.int .i64 0, .int .i64 0], .int .i64 450]) (v := .tuple #[.slice none 0 0, .agg #[.int .i64 0, .int .i64 0], .int .i64 450]) hF (by kernel_rfl) (fun _ => by kernel_rfl) rfl fun a hF => ?_
              exact ⟨bb25, AA26, cc26, bb27, ((hF.repl 19 (by kernel_rfl)).cast (by kernel_rfl)), (hM.cast (by kernel_rfl))⟩
            · intro s0 s1 s2 s3 s4 s5 s6 s7 s8 s9 s10 s11 hc hi hp a w hS
              obtain rfl : s5 = false := hi
              obtain rfl : s4 = true := hp 4 (by kernel_rfl)
              obtain ⟨bb25, AA26, cc26, bb27, hF, hM⟩ := hS
              refine eP 74 (v0 := .slice none 0 0) (v := .slice none 0 0) hF (by kernel_rfl) (fun _ => by kernel_rfl) rfl fun a hF => ?_
              exact ⟨bb25, AA26, cc26, bb27, ((hF.repl 24 (by kernel_rfl)).cast (by kernel_rfl)), (hM.cast (by kernel_rfl))⟩
            · intro s0 s1 s2 s3 s4 s5 s6 s7 s8 s9 s10 s11 hc hi hp a w hS
              obtain rfl : s6 = false := hi
              obtain rfl : s4 = true := hp 4 (by kernel_rfl)
              obtain ⟨bb25, AA26, cc26, bb27, hF, hM⟩ := hS
              refine eP 75 (v0 := .agg #[.int .i64 0, .int .i64 0]) (v := .agg #[.int .i64 0, .int .i64 0]) hF (by kernel_rfl) (fun _ => by kernel_rfl) rfl fun a hF => ?_
              exact ⟨bb25, AA26, cc26, bb27, ((hF.repl 25 (by kernel_rfl)).cast (by kernel_rfl)), (hM.cast (by kernel_rfl))⟩
            · intro s0 s1 s2 s3 s4 s5 s6 s7 s8 s9 s10 s11 hc hi hp a w hS
              obtain rfl : s7 = false := hi
              obtain rfl : s4 = true := hp 4 (by kernel_rfl)
              obtain ⟨bb25, AA26, cc26, bb27, hF, hM⟩ := hS
              refine eP 76 (v0 := .int .i64 450) (v := .int .i64 450) hF (by kernel_rfl) (fun _ => by kernel_rfl) rfl fun a hF => ?_
              exact ⟨bb25, AA26, cc26, bb27, ((hF.repl 26 (by kernel_rfl)).cast (by kernel_rfl)), (hM.cast (by kernel_rfl))⟩
            · intro s0 s1 s2 s3 s4 s5 s6 s7 s8 s9 s10 s11 hc hi hp a w hS
              obtain rfl : s8 = false := hi
              obtain rfl : s10 = false := hc.f 10 8 (by kernel_rfl) rfl
              obtain ⟨bb25, AA26, cc26, bb27, hF, hM⟩ := hS
              refine eN 8 27 (t := 40) (fun b => .pointer (some ⟨b, 0, none⟩)) #[.int .i64 0, .int .i64 0] hF hM (by kernel_rfl) (fun _ => by kernel_rfl) fun bb27 a w hF hM => ?_
              exact ⟨bb25, AA26, cc26, bb27, ((hF.repl 6 (by kernel_rfl)).cast (by kernel_rfl)), ((hM.repl 8 (by kernel_rfl)).cast (by kernel_rfl))⟩
            · intro s0 s1 s2 s3 s4 s5 s6 s7 s8 s9 s10 s11 hc hi hp a w hS
              obtain rfl : s9 = false := hi
              obtain rfl : s5 = true := hp 5 (by kernel_rfl)
              obtain ⟨bb25, AA26, cc26, bb27, hF, hM⟩ := hS
              refine eP 7 (v0 := .slice none 0 0) (v := .slice none 0 0) hF (by kernel_rfl) (fun _ => by kernel_rfl) rfl fun a hF => ?_
              exact ⟨bb25, AA26, cc26, bb27, ((hF.repl 5 (by kernel_rfl)).cast (by kernel_rfl)), (hM.cast (by kernel_rfl))⟩
            · intro s0 s1 s2 s3 s4 s5 s6 s7 s8 s9 s10 s11 hc hi hp a w hS
              obtain rfl : s10 = false := hi
              obtain rfl : s8 = true := hp 8 (by kernel_rfl)
              obtain rfl : s6 = true := hp 6 (by kernel_rfl)
              obtain ⟨bb25, AA26, cc26, bb27, hF, hM⟩ := hS
              refine sStore (i := 27) (off := 0) (cs' := #[.int .i64 0, .int .i64 0]) hF hM (by kernel_rfl) rfl rfl (by kernel_rfl) (by kernel_rfl) rfl (by kernel_rfl) fun w hM => ?_
              exact ⟨bb25, AA26, cc26, bb27, (hF.cast (by kernel_rfl)), ((hM.repl 8 (by kernel_rfl)).cast (by kernel_rfl))⟩
            · intro s0 s1 s2 s3 s4 s5 s6 s7 s8 s9 s10 s11 hc hi hp a w hS
              obtain rfl : s11 = false := hi
              obtain rfl : s7 = true := hp 7 (by kernel_rfl)
              obtain ⟨bb25, AA26, cc26, bb27, hF, hM⟩ := hS
              refine eP 9 (v0 := .int .i64 450) (v := .int .i64 450) hF (by kernel_rfl) (fun _ => by kernel_rfl) rfl fun a hF => ?_
              exact ⟨bb25, AA26, cc26, bb27, ((hF.repl 7 (by kernel_rfl)).cast (by kernel_rfl)), (hM.cast (by kernel_rfl))⟩
          · intro a w hS
            obtain ⟨bb25, AA26, cc26, bb27, hF, hM⟩ := hS
            replace hF : Fr 283 [(0, some (.bool false)), (1, some (.pointer (some ⟨bb2, 0, none⟩))), (3, some (.pointer (some ⟨bb23, 0, none⟩))), (5, some (.pointer (some ⟨bb24, 0, none⟩))), (6, some (.int .i64 450)), (7, some (.slice none 0 0)), (8, some (.pointer (some ⟨bb27, 0, none⟩))), (9, some (.int .i64 450)), (58, some (.agg #[.int .i64 0, .int .i64 0, .int .i64 1, .int .i64 0, .int .i64 0, .int .i64 1, .int .i64 (-1), .int .i64 1, .int .i64 1, .int .i64 1001, .int .i64 1048576, .int .i64 1])), (59, some (.int .i64 4)), (60, some (.bool true)), (61, some (.agg #[.int .i64 1, .int .i64 1001])), (62, some (.tuple #[.int .i64 0, .agg #[.int .i64 0, .int .i64 0], .int .i64 450])), (63, some (.agg #[.int .i64 1, .int .i64 1001])), (64, some (.agg #[.int .i64 (-1), .int .i64 0])), (65, some (.tuple #[.int .i64 0, .agg #[.int .i64 0, .int .i64 0], .int .i64 450])), (66, some (.int .i64 0)), (67, some (.agg #[.int .i64 0, .int .i64 0])), (68, some (.int .i64 450)), (69, some (.tuple #[.slice none 0 0, .agg #[.int .i64 0, .int .i64 0], .int .i64 450])), (70, some (.agg #[.int .i64 1, .int .i64 1001])), (71, some (.slice (some ⟨bb25, 0, none⟩) 2 2)), (72, some (.slice AA26 1 cc26)), (73, some (.tuple #[.slice none 0 0, .agg #[.int .i64 0, .int .i64 0], .int .i64 450])), (74, some (.slice none 0 0)), (75, some (.agg #[.int .i64 0, .int .i64 0])), (76, some (.int .i64 450)), (77, some (.agg #[.int .i64 (-1), .int .i64 1])), (78, some (.int .i64 450)), (79, some (.bool false)), (80, some (.bool false)), (81, some (.int .i64 450)), (82, some (.bool false)), (83, some (.bool false)), (84, some (.bool false)), (85, some (.int .i64 450)), (86, some (.bool false)), (87, some (.bool false)), (88, some (.int .i64 4))] a := hF.cast (by kernel_rfl)
            replace hM : Mem w0.heap.size w0 [(2, some (.row bb2 23 #[.int .i64 131072, .int .i64 2])), (20, some (.row bb20 3 #[.int .i64 5, .int .i64 0])), (21, some (.own (.slice AA21 1 cc21) 57 2 1 (flat2 ([(5, 0)])))), (22, some (.row bb22 40 #[.int .i64 0, .int .i64 0])), (23, some (.row bb23 23 #[.int .i64 1, .int .i64 1001])), (24, some (.row bb24 40 #[.int .i64 0, .int .i64 0])), (25, some (.row bb25 3 #[.int .i64 5, .int .i64 0])), (26, some (.own (.slice AA26 1 cc26) 57 2 1 (flat2 ([(5, 0)])))), (27, some (.row bb27 40 #[.int .i64 0, .int .i64 0]))] w := hM.cast (by kernel_rfl)
            refine hK46 _ _ ?_
            refine wp_seq_k fun K47 hK47 => ?_
            refine wp_region_lit ?_
            refine wl (eL 77 23 0 (v := .agg #[.int .i64 1, .int .i64 1001]) hF hM (by kernel_rfl) rfl rfl (by kernel_rfl) (by kernel_rfl) fun a w hF hM => ?_)
            refine wl (eM 78 (v := .int .i64 450) hF hM (by kernel_rfl) ((yld_call (f := 16) (args := #[.agg #[.int .i64 1, .int .i64 1001]]) hF (by kernel_rfl) (fun _ => by kernel_rfl) (fun w hM => crCheck_w 1 1001 w)).to (by kernel_rfl)) fun a w hF hM => ?_)
            refine wl (eP 79 (v0 := .bool (!decide (450 = 450))) (v := .bool false) hF (by kernel_rfl) (fun _ => by kernel_rfl) (nT (by omega)) fun a hF => ?_)
            refine sB 2 [(80, .bool false), (81, .int .i64 450)] hF (by kernel_rfl) fun a hF => ?_
            refine wl (eP 82 (v0 := .bool (!decide (450 = 450))) (v := .bool false) hF (by kernel_rfl) (fun _ => by kernel_rfl) (nT (by omega)) fun a hF => ?_)
            refine sB 3 [(83, .bool false), (84, .bool false), (85, .int .i64 450)] hF (by kernel_rfl) fun a hF => ?_
            refine wl (eP 86 (v0 := .bool (!decide (450 = 450))) (v := .bool false) hF (by kernel_rfl) (fun _ => by kernel_rfl) (nT (by omega)) fun a hF => ?_)
            refine sB 1 [(87, .bool false)] hF (by kernel_rfl) fun a hF => ?_
            refine wpList_nil ?_
            refine hK47 _ _ ?_
            refine cF hF (by kernel_rfl) (by kernel_rfl) ?_
            refine wp_skip ?_
            refine hK43 _ _ ?_
            refine wp_region_lit ?_
            refine wl (eP 88 (v0 := .int .i64 (IntKind.i64.wrap (4 + 1))) (v := .int .i64 5) hF (by kernel_rfl) (fun _ => by kernel_rfl) (vi (by decide)) fun a hF => ?_)
            refine sB 1 [(59, .int .i64 5)] hF (by kernel_rfl) fun a hF => ?_
            refine wpList_nil ?_
            refine hK40 _ _ ?_
            refine rounds_k fun K48 hK48 => ?_
            refine wp_seq_k fun K49 hK49 => ?_
            refine wp_region_lit ?_
            refine wl (eP 60 (v0 := .bool (decide (5 < 6))) (v := .bool true) hF (by kernel_rfl) (fun _ => by kernel_rfl) (bT (by omega)) fun a hF => ?_)
            refine wpList_nil ?_
            refine hK49 _ _ ?_
            refine wp_seq_k fun K50 hK50 => ?_
            refine cT hF (by kernel_rfl) (by kernel_rfl) ?_
            refine wp_skip ?_
            refine hK50 _ _ ?_
            refine wp_seq_k fun K51 hK51 => ?_
            refine wp_block ?_
            refine wp_seq_k fun K52 hK52 => ?_
            refine wp_region_lit ?_
            refine sB 1 [(61, .agg #[.int .i64 1048576, .int .i64 1])] hF (by kernel_rfl) fun a hF => ?_
            refine wl (eN 3 28 (t := 23) (fun b => .pointer (some ⟨b, 0, none⟩)) #[.int .i64 0, .int .i64 0] hF hM (by kernel_rfl) (fun _ => by kernel_rfl) fun bb28 a w hF hM => ?_)
            refine wl (sStore (i := 28) (off := 0) (cs' := #[.int .i64 1048576, .int .i64 1]) hF hM (by kernel_rfl) rfl rfl (by kernel_rfl) (by kernel_rfl) rfl (by kernel_rfl) fun w hM => ?_)
            refine wpList_nil ?_
            refine hK52 _ _ ?_
            refine wp_seq_k fun K53 hK53 => ?_
            refine wp_region_lit ?_
            refine wl (eL 63 28 0 (v := .agg #[.int .i64 1048576, .int .i64 1]) hF hM (by kernel_rfl) rfl rfl (by kernel_rfl) (by kernel_rfl) fun a w hF hM => ?_)
            refine sB 1 [(64, .agg #[.int .i64 (-1), .int .i64 0])] hF (by kernel_rfl) fun a hF => ?_
            refine wl (eM 65 (v := .tuple #[.int .i64 0, .agg #[.int .i64 0, .int .i64 0], .int .i64 450]) hF hM (by kernel_rfl) ((yld_call (f := 20) (args := #[.agg #[.int .i64 1048576, .int .i64 1], .agg #[.int .i64 (-1), .int .i64 0], .int .i64 (-1), .int .i64 (-1), .int .i64 0]) hF (by kernel_rfl) (fun _ => by kernel_rfl) (fun w hM => crStep_w 1048576 1 (-1) 0 (-1) (-1) 0 w)).to (by kernel_rfl)) fun a w hF hM => ?_)
            refine sB 4 [(62, .tuple #[.int .i64 0, .agg #[.int .i64 0, .int .i64 0], .int .i64 450]), (66, .int .i64 0), (67, .agg #[.int .i64 0, .int .i64 0]), (68, .int .i64 450)] hF (by kernel_rfl) fun a hF => ?_
            refine wl (eN 5 29 (t := 40) (fun b => .pointer (some ⟨b, 0, none⟩)) #[.int .i64 0, .int .i64 0] hF hM (by kernel_rfl) (fun _ => by kernel_rfl) fun bb29 a w hF hM => ?_)
            refine sB 1 [(4, .int .i64 0)] hF (by kernel_rfl) fun a hF => ?_
            refine wl (sStore (i := 29) (off := 0) (cs' := #[.int .i64 0, .int .i64 0]) hF hM (by kernel_rfl) rfl rfl (by kernel_rfl) (by kernel_rfl) rfl (by kernel_rfl) fun w hM => ?_)
            refine sB 1 [(6, .int .i64 450)] hF (by kernel_rfl) fun a hF => ?_
            refine wpList_nil ?_
            refine hK53 _ _ ?_
            refine wp_seq_k fun K54 hK54 => ?_
            refine rF (by kernel_rfl) (by kernel_rfl) (fun S a w => ∃ bb30 : Nat, ∃ AA31 : Option Addr, ∃ cc31 : Nat, ∃ bb32 : Nat, Fr 283 [(0, some (.bool false)), (1, some (.pointer (some ⟨bb2, 0, none⟩))), (3, some (.pointer (some ⟨bb28, 0, none⟩))), (5, some (.pointer (some ⟨bb29, 0, none⟩))), (6, some (.int .i64 450)), (7, (cond (S.getD 9 false) (some (.slice none 0 0)) (some (.slice none 0 0)))), (8, (cond (S.getD 8 false) (some (.pointer (some ⟨bb32, 0, none⟩))) (some (.pointer (some ⟨bb27, 0, none⟩))))), (9, (cond (S.getD 11 false) (some (.int .i64 450)) (some (.int .i64 450)))), (58, some (.agg #[.int .i64 0, .int .i64 0, .int .i64 1, .int .i64 0, .int .i64 0, .int .i64 1, .int .i64 (-1), .int .i64 1, .int .i64 1, .int .i64 1001, .int .i64 1048576, .int .i64 1])), (59, some (.int .i64 5)), (60, some (.bool true)), (61, some (.agg #[.int .i64 1048576, .int .i64 1])), (62, some (.tuple #[.int .i64 0, .agg #[.int .i64 0, .int .i64 0], .int .i64 450])), (63, some (.agg #[.int .i64 1048576, .int .i64 1])), (64, some (.agg #[.int .i64 (-1), .int .i64 0])), (65, some (.tuple #[.int .i64 0, .agg #[.int .i64 0, .int .i64 0], .int .i64 450])), (66, some (.int .i64 0)), (67, some (.agg #[.int .i64 0, .int .i64 0])), (68, some (.int .i64 450)), (69, (cond (S.getD 4 false) (some (.tuple #[.slice none 0 0, .agg #[.int .i64 0, .int .i64 0], .int .i64 450])) (some (.tuple #[.slice none 0 0, .agg #[.int .i64 0, .int .i64 0], .int .i64 450])))), (70, (cond (S.getD 0 false) (some (.agg #[.int .i64 1048576, .int .i64 1])) (some (.agg #[.int .i64 1, .int .i64 1001])))), (71, (cond (S.getD 1 false) (some (.slice (some ⟨bb30, 0, none⟩) 2 2)) (some (.slice (some ⟨bb25, 0, none⟩) 2 2)))), (72, (cond (S.getD 2 false) (some (.slice AA31 1 cc31)) (some (.slice AA26 1 cc26)))), (73, (cond (S.getD 3 false) (some (.tuple #[.slice none 0 0, .agg #[.int .i64 0, .int .i64 0], .int .i64 450])) (some (.tuple #[.slice none 0 0, .agg #[.int .i64 0, .int .i64 0], .int .i64 450])))), (74, (cond (S.getD 5 false) (some (.slice none 0 0)) (some (.slice none 0 0)))), (75, (cond (S.getD 6 false) (some (.agg #[.int .i64 0, .int .i64 0])) (some (.agg #[.int .i64 0, .int .i64 0])))), (76, (cond (S.getD 7 false) (some (.int .i64 450)) (some (.int .i64 450)))), (77, some (.agg #[.int .i64 1, .int .i64 1001])), (78, some (.int .i64 450)), (79, some (.bool false)), (80, some (.bool false)), (81, some (.int .i64 450)), (82, some (.bool false)), (83, some (.bool false)), (84, some (.bool false)), (85, some (.int .i64 450)), (86, some (.bool false)), (87, some (.bool false)), (88, some (.int .i64 5))] a ∧ Mem w0.heap.size w0 [(2, some (.row bb2 23 #[.int .i64 131072, .int .i64 2])), (25, some (.row bb25 3 #[.int .i64 5, .int .i64 0])), (26, some (.own (.slice AA26 1 cc26) 57 2 1 (flat2 ([(5, 0)])))), (27, some (.row bb27 40 #[.int .i64 0, .int .i64 0])), (28, some (.row bb28 23 #[.int .i64 1048576, .int .i64 1])), (29, some (.row bb29 40 #[.int .i64 0, .int .i64 0])), (30, (cond (S.getD 1 false) (some (.row bb30 3 #[.int .i64 5, .int .i64 0])) none)), (31, (cond (S.getD 2 false) (some (.own (.slice AA31 1 cc31) 57 2 1 (flat2 ([(5, 0)])))) none)), (32, (cond (S.getD 10 false) (some (.row bb32 40 #[.int .i64 0, .int .i64 0])) (cond (S.getD 8 false) (some (.row bb32 40 #[.int .i64 0, .int .i64 0])) none)))] w) ?_ ?_ ?_
            · exact ⟨0, none, 0, 0, ((((((((((((((((((((((((((((((((((((((((Fr.nil hF).co hF (i := 88) (by kernel_rfl)).co hF (i := 87) (by kernel_rfl)).co hF (i := 86) (by kernel_rfl)).co hF (i := 85) (by kernel_rfl)).co hF (i := 84) (by kernel_rfl)).co hF (i := 83) (by kernel_rfl)).co hF (i := 82) (by kernel_rfl)).co hF (i := 81) (by kernel_rfl)).co hF (i := 80) (by kernel_rfl)).co hF (i := 79) (by kernel_rfl)).co hF (i := 78) (by kernel_rfl)).co hF (i := 77) (by kernel_rfl)).co hF (i := 76) (by kernel_rfl)).co hF (i := 75) (by kernel_rfl)).co hF (i := 74) (by kernel_rfl)).co hF (i := 73) (by kernel_rfl)).co hF (i := 72) (by kernel_rfl)).co hF (i := 71) (by kernel_rfl)).co hF (i := 70) (by kernel_rfl)).co hF (i := 69) (by kernel_rfl)).co hF (i := 68) (by kernel_rfl)).co hF (i := 67) (by kernel_rfl)).co hF (i := 66) (by kernel_rfl)).co hF (i := 65) (by kernel_rfl)).co hF (i := 64) (by kernel_rfl)).co hF (i := 63) (by kernel_rfl)).co hF (i := 62) (by kernel_rfl)).co hF (i := 61) (by kernel_rfl)).co hF (i := 60) (by kernel_rfl)).co hF (i := 59) (by kernel_rfl)).co hF (i := 58) (by kernel_rfl)).co hF (i := 9) (by kernel_rfl)).co hF (i := 8) (by kernel_rfl)).co hF (i := 7) (by kernel_rfl)).co hF (i := 6) (by kernel_rfl)).co hF (i := 5) (by kernel_rfl)).co hF (i := 3) (by kernel_rfl)).co hF (i := 1) (by kernel_rfl)).co hF (i := 0) (by kernel_rfl)), hM.drew.sub (((((((((Sub.nil.co (k := 32) (by kernel_rfl)).co (k := 31) (by kernel_rfl)).co (k := 30) (by kernel_rfl)).co (k := 29) (by kernel_rfl)).co (k := 28) (by kernel_rfl)).co (k := 27) (by kernel_rfl)).co (k := 26) (by kernel_rfl)).co (k := 25) (by kernel_rfl)).co (k := 2) (by kernel_rfl))⟩
            · refine stC ?_ (stC ?_ (stC ?_ (stC ?_ (stC ?_ (stC ?_ (stC ?_ (stC ?_ (stC ?_ (stC ?_ (stC ?_ (stC ?_ (trivial))))))))))))
              · intro s0 s1 s2 s3 s4 s5 s6 s7 s8 s9 s10 s11 hc hi hp a w hS
                obtain rfl : s0 = false := hi
                obtain ⟨bb30, AA31, cc31, bb32, hF, hM⟩ := hS
                refine eL 70 28 0 (v := .agg #[.int .i64 1048576, .int .i64 1]) hF hM (by kernel_rfl) rfl rfl (by kernel_rfl) (by kernel_rfl) fun a w hF hM => ?_
                exact ⟨bb30, AA31, cc31, bb32, ((hF.repl 20 (by kernel_rfl)).cast (by kernel_rfl)), (hM.cast (by kernel_rfl))⟩
              · intro s0 s1 s2 s3 s4 s5 s6 s7 s8 s9 s10 s11 hc hi hp a w hS
                obtain rfl : s1 = false := hi
                obtain ⟨bb30, AA31, cc31, bb32, hF, hM⟩ := hS
                refine eN 71 30 (t := 3) (fun b => .slice (some ⟨b, 0, none⟩) 2 2) #[.int .i64 5, .int .i64 0] hF hM (by kernel_rfl) (fun _ => by kernel_rfl) fun bb30 a w hF hM => ?_
                exact ⟨bb30, AA31, cc31, bb32, ((hF.repl 21 (by kernel_rfl)).cast (by kernel_rfl)), ((hM.repl 6 (by kernel_rfl)).cast (by kernel_rfl))⟩
              · intro s0 s1 s2 s3 s4 s5 s6 s7 s8 s9 s10 s11 hc hi hp a w hS
                obtain rfl : s2 = false := hi
                obtain rfl : s1 = true := hp 1 (by kernel_rfl)
                obtain ⟨bb30, AA31, cc31, bb32, hF, hM⟩ := hS
                refine sOwn 31 (f := 23) (args := #[.slice (some ⟨bb30, 0, none⟩) 2 2]) (mk := fun v => v) (e := 57) (size := 2) (m := 1) (xs := (flat2 ([(5, 0)]))) hF hM (by kernel_rfl) rfl (by decide) (by kernel_rfl) (fun _ => by kernel_rfl) (trace_w (some ⟨bb30, 0, none⟩) [5, 0] 2 w (hM.roRow (k := 30) rfl) (by decide)) fun AA31 cc31 a w hF hM => ?_
                exact ⟨bb30, AA31, cc31, bb32, ((hF.repl 22 (by kernel_rfl)).cast (by kernel_rfl)), ((hM.repl 7 (by kernel_rfl)).cast (by kernel_rfl))⟩
              · intro s0 s1 s2 s3 s4 s5 s6 s7 s8 s9 s10 s11 hc hi hp a w hS
                obtain rfl : s3 = false := hi
                obtain rfl : s2 = true := hp 2 (by kernel_rfl)
                obtain rfl : s0 = true := hp 0 (by kernel_rfl)
                obtain ⟨bb30, AA31, cc31, bb32, hF, hM⟩ := hS
                refine eM 73 (v := .tuple #[.slice none 0 0, .agg #[.int .i64 0, .int .i64 0], .int .i64 450]) hF hM (by kernel_rfl) (yld_call (f := 12) (args := #[.agg #[.int .i64 1048576, .int .i64 1], .slice AA31 1 cc31, .slice none 0 0]) hF (by kernel_rfl) (fun _ => by kernel_rfl) (fun w hM => crRun_err (by decide : runS 1048576 1 ([(5, 0)]) ([] : List Int) = (450, [], 0, 0)) (crRun_w 1048576 1 AA31 ([(5, 0)]) cc31 none ([] : List Int) 0 w (ro_of_own (hM.ok 31 _ rfl)) Ro.nil (by decide) (by decide)))) fun a w hF hM => ?_
                exact ⟨bb30, AA31, cc31, bb32, ((hF.repl 23 (by kernel_rfl)).cast (by kernel_rfl)), (hM.cast (by kernel_rfl))⟩
              · intro s0 s1 s2 s3 s4 s5 s6 s7 s8 s9 s10 s11 hc hi hp a w hS
                obtain rfl : s4 = false := hi
                obtain rfl : s3 = true := hp 3 (by kernel_rfl)
                obtain ⟨bb30, AA31, cc31, bb32, hF, hM⟩ := hS
                refine eP 69 (v0 := .tuple #[.slice none 0 0, .agg #[.int .i64 0, .int .i64 0], .int .i64 450]) (v := .tuple #[.slice none 0 0, .agg #[.int .i64 0, .int .i64 0], .int .i64 450]) hF (by kernel_rfl) (fun _ => by kernel_rfl) rfl fun a hF => ?_
                exact ⟨bb30, AA31, cc31, bb32, ((hF.repl 19 (by kernel_rfl)).cast (by kernel_rfl)), (hM.cast (by kernel_rfl))⟩
              · intro s0 s1 s2 s3 s4 s5 s6 s7 s8 s9 s10 s11 hc hi hp a w hS
                obtain rfl : s5 = false := hi
                obtain rfl : s4 = true := hp 4 (by kernel_rfl)
                obtain ⟨bb30, AA31, cc31, bb32, hF, hM⟩ := hS
                refine eP 74 (v0 := .slice none 0 0) (v := .slice none 0 0) hF (by kernel_rfl) (fun _ => by kernel_rfl) rfl fun a hF => ?_
                exact ⟨bb30, AA31, cc31, bb32, ((hF.repl 24 (by kernel_rfl)).cast (by kernel_rfl)), (hM.cast (by kernel_rfl))⟩
              · intro s0 s1 s2 s3 s4 s5 s6 s7 s8 s9 s10 s11 hc hi hp a w hS
                obtain rfl : s6 = false := hi
                obtain rfl : s4 = true := hp 4 (by kernel_rfl)
                obtain ⟨bb30, AA31, cc31, bb32, hF, hM⟩ := hS
                refine eP 75 (v0 := .agg #[.int .i64 0, .int .i64 0]) (v := .agg #[.int .i64 0, .int .i64 0]) hF (by kernel_rfl) (fun _ => by kernel_rfl) rfl fun a hF => ?_
                exact ⟨bb30, AA31, cc31, bb32, ((hF.repl 25 (by kernel_rfl)).cast (by kernel_rfl)), (hM.cast (by kernel_rfl))⟩
              · intro s0 s1 s2 s3 s4 s5 s6 s7 s8 s9 s10 s11 hc hi hp a w hS
                obtain rfl : s7 = false := hi
                obtain rfl : s4 = true := hp 4 (by kernel_rfl)
                obtain ⟨bb30, AA31, cc31, bb32, hF, hM⟩ := hS
                refine eP 76 (v0 := .int .i64 450) (v := .int .i64 450) hF (by kernel_rfl) (fun _ => by kernel_rfl) rfl fun a hF => ?_
                exact ⟨bb30, AA31, cc31, bb32, ((hF.repl 26 (by kernel_rfl)).cast (by kernel_rfl)), (hM.cast (by kernel_rfl))⟩
              · intro s0 s1 s2 s3 s4 s5 s6 s7 s8 s9 s10 s11 hc hi hp a w hS
                obtain rfl : s8 = false := hi
                obtain rfl : s10 = false := hc.f 10 8 (by kernel_rfl) rfl
                obtain ⟨bb30, AA31, cc31, bb32, hF, hM⟩ := hS
                refine eN 8 32 (t := 40) (fun b => .pointer (some ⟨b, 0, none⟩)) #[.int .i64 0, .int .i64 0] hF hM (by kernel_rfl) (fun _ => by kernel_rfl) fun bb32 a w hF hM => ?_
                exact ⟨bb30, AA31, cc31, bb32, ((hF.repl 6 (by kernel_rfl)).cast (by kernel_rfl)), ((hM.repl 8 (by kernel_rfl)).cast (by kernel_rfl))⟩
              · intro s0 s1 s2 s3 s4 s5 s6 s7 s8 s9 s10 s11 hc hi hp a w hS
                obtain rfl : s9 = false := hi
                obtain rfl : s5 = true := hp 5 (by kernel_rfl)
                obtain ⟨bb30, AA31, cc31, bb32, hF, hM⟩ := hS
                refine eP 7 (v0 := .slice none 0 0) (v := .slice none 0 0) hF (by kernel_rfl) (fun _ => by kernel_rfl) rfl fun a hF => ?_
                exact ⟨bb30, AA31, cc31, bb32, ((hF.repl 5 (by kernel_rfl)).cast (by kernel_rfl)), (hM.cast (by kernel_rfl))⟩
              · intro s0 s1 s2 s3 s4 s5 s6 s7 s8 s9 s10 s11 hc hi hp a w hS
                obtain rfl : s10 = false := hi
                obtain rfl : s8 = true := hp 8 (by kernel_rfl)
                obtain rfl : s6 = true := hp 6 (by kernel_rfl)
                obtain ⟨bb30, AA31, cc31, bb32, hF, hM⟩ := hS
                refine sStore (i := 32) (off := 0) (cs' := #[.int .i64 0, .int .i64 0]) hF hM (by kernel_rfl) rfl rfl (by kernel_rfl) (by kernel_rfl) rfl (by kernel_rfl) fun w hM => ?_
                exact ⟨bb30, AA31, cc31, bb32, (hF.cast (by kernel_rfl)), ((hM.repl 8 (by kernel_rfl)).cast (by kernel_rfl))⟩
              · intro s0 s1 s2 s3 s4 s5 s6 s7 s8 s9 s10 s11 hc hi hp a w hS
                obtain rfl : s11 = false := hi
                obtain rfl : s7 = true := hp 7 (by kernel_rfl)
                obtain ⟨bb30, AA31, cc31, bb32, hF, hM⟩ := hS
                refine eP 9 (v0 := .int .i64 450) (v := .int .i64 450) hF (by kernel_rfl) (fun _ => by kernel_rfl) rfl fun a hF => ?_
                exact ⟨bb30, AA31, cc31, bb32, ((hF.repl 7 (by kernel_rfl)).cast (by kernel_rfl)), (hM.cast (by kernel_rfl))⟩
            · intro a w hS
              obtain ⟨bb30, AA31, cc31, bb32, hF, hM⟩ := hS
              replace hF : Fr 283 [(0, some (.bool false)), (1, some (.pointer (some ⟨bb2, 0, none⟩))), (3, some (.pointer (some ⟨bb28, 0, none⟩))), (5, some (.pointer (some ⟨bb29, 0, none⟩))), (6, some (.int .i64 450)), (7, some (.slice none 0 0)), (8, some (.pointer (some ⟨bb32, 0, none⟩))), (9, some (.int .i64 450)), (58, some (.agg #[.int .i64 0, .int .i64 0, .int .i64 1, .int .i64 0, .int .i64 0, .int .i64 1, .int .i64 (-1), .int .i64 1, .int .i64 1, .int .i64 1001, .int .i64 1048576, .int .i64 1])), (59, some (.int .i64 5)), (60, some (.bool true)), (61, some (.agg #[.int .i64 1048576, .int .i64 1])), (62, some (.tuple #[.int .i64 0, .agg #[.int .i64 0, .int .i64 0], .int .i64 450])), (63, some (.agg #[.int .i64 1048576, .int .i64 1])), (64, some (.agg #[.int .i64 (-1), .int .i64 0])), (65, some (.tuple #[.int .i64 0, .agg #[.int .i64 0, .int .i64 0], .int .i64 450])), (66, some (.int .i64 0)), (67, some (.agg #[.int .i64 0, .int .i64 0])), (68, some (.int .i64 450)), (69, some (.tuple #[.slice none 0 0, .agg #[.int .i64 0, .int .i64 0], .int .i64 450])), (70, some (.agg #[.int .i64 1048576, .int .i64 1])), (71, some (.slice (some ⟨bb30, 0, none⟩) 2 2)), (72, some (.slice AA31 1 cc31)), (73, some (.tuple #[.slice none 0 0, .agg #[.int .i64 0, .int .i64 0], .int .i64 450])), (74, some (.slice none 0 0)), (75, some (.agg #[.int .i64 0, .int .i64 0])), (76, some (.int .i64 450)), (77, some (.agg #[.int .i64 1, .int .i64 1001])), (78, some (.int .i64 450)), (79, some (.bool false)), (80, some (.bool false)), (81, some (.int .i64 450)), (82, some (.bool false)), (83, some (.bool false)), (84, some (.bool false)), (85, some (.int .i64 450)), (86, some (.bool false)), (87, some (.bool false)), (88, some (.int .i64 5))] a := hF.cast (by kernel_rfl)
              replace hM : Mem w0.heap.size w0 [(2, some (.row bb2 23 #[.int .i64 131072, .int .i64 2])), (25, some (.row bb25 3 #[.int .i64 5, .int .i64 0])), (26, some (.own (.slice AA26 1 cc26) 57 2 1 (flat2 ([(5, 0)])))), (27, some (.row bb27 40 #[.int .i64 0, .int .i64 0])), (28, some (.row bb28 23 #[.int .i64 1048576, .int .i64 1])), (29, some (.row bb29 40 #[.int .i64 0, .int .i64 0])), (30, some (.row bb30 3 #[.int .i64 5, .int .i64 0])), (31, some (.own (.slice AA31 1 cc31) 57 2 1 (flat2 ([(5, 0)])))), (32, some (.row bb32 40 #[.int .i64 0, .int .i64 0]))] w := hM.cast (by kernel_rfl)
              refine hK54 _ _ ?_
              refine wp_seq_k fun K55 hK55 => ?_
              refine wp_region_lit ?_
              refine wl (eL 77 28 0 (v := .agg #[.int .i64 1048576, .int .i64 1]) hF hM (by kernel_rfl) rfl rfl (by kernel_rfl) (by kernel_rfl) fun a w hF hM => ?_)
              refine wl (eM 78 (v := .int .i64 450) hF hM (by kernel_rfl) ((yld_call (f := 16) (args := #[.agg #[.int .i64 1048576, .int .i64 1]]) hF (by kernel_rfl) (fun _ => by kernel_rfl) (fun w hM => crCheck_w 1048576 1 w)).to (by kernel_rfl)) fun a w hF hM => ?_)
              refine wl (eP 79 (v0 := .bool (!decide (450 = 450))) (v := .bool false) hF (by kernel_rfl) (fun _ => by kernel_rfl) (nT (by omega)) fun a hF => ?_)
              refine sB 2 [(80, .bool false), (81, .int .i64 450)] hF (by kernel_rfl) fun a hF => ?_
              refine wl (eP 82 (v0 := .bool (!decide (450 = 450))) (v := .bool false) hF (by kernel_rfl) (fun _ => by kernel_rfl) (nT (by omega)) fun a hF => ?_)
              refine sB 3 [(83, .bool false), (84, .bool false), (85, .int .i64 450)] hF (by kernel_rfl) fun a hF => ?_
              refine wl (eP 86 (v0 := .bool (!decide (450 = 450))) (v := .bool false) hF (by kernel_rfl) (fun _ => by kernel_rfl) (nT (by omega)) fun a hF => ?_)
              refine sB 1 [(87, .bool false)] hF (by kernel_rfl) fun a hF => ?_
              refine wpList_nil ?_
              refine hK55 _ _ ?_
              refine cF hF (by kernel_rfl) (by kernel_rfl) ?_
              refine wp_skip ?_
              refine hK51 _ _ ?_
              refine wp_region_lit ?_
              refine wl (eP 88 (v0 := .int .i64 (IntKind.i64.wrap (5 + 1))) (v := .int .i64 6) hF (by kernel_rfl) (fun _ => by kernel_rfl) (vi (by decide)) fun a hF => ?_)
              refine sB 1 [(59, .int .i64 6)] hF (by kernel_rfl) fun a hF => ?_
              refine wpList_nil ?_
              refine hK48 _ _ ?_
              refine rounds_k fun K56 hK56 => ?_
              refine wp_seq_k fun K57 hK57 => ?_
              refine wp_region_lit ?_
              refine wl (eP 60 (v0 := .bool (decide (6 < 6))) (v := .bool false) hF (by kernel_rfl) (fun _ => by kernel_rfl) (bF (by omega)) fun a hF => ?_)
              refine wpList_nil ?_
              refine hK57 _ _ ?_
              refine wp_seq_k fun K58 hK58 => ?_
              refine cF hF (by kernel_rfl) (by kernel_rfl) ?_
              refine wp_exit ?_
              refine hK6 _ _ ?_
              refine wp_seq_k fun K59 hK59 => ?_
              refine wp_seq_k fun K60 hK60 => ?_
              refine wp_region_lit ?_
              refine sB 6 [(89, .agg #[.int .i64 (-1), .int .i64 0]), (90, .agg #[.int .i64 1073741825, .int .i64 0]), (91, .agg #[.int .i64 0, .int .i64 (-1616904193)]), (92, .agg #[.int .i64 0, .int .i64 1125899906842625]), (93, .agg #[.int .i64 (-1), .int .i64 0, .int .i64 1073741825, .int .i64 0, .int .i64 0, .int .i64 (-1616904193), .int .i64 0, .int .i64 1125899906842625]), (94, .int .i64 0)] hF (by kernel_rfl) fun a hF => ?_
              refine wpList_nil ?_
              refine hK60 _ _ ?_
              refine wp_block ?_
              refine wp_loop_rounds 5 ?_
              refine rounds_k fun K61 hK61 => ?_
              refine wp_seq_k fun K62 hK62 => ?_
              refine wp_region_lit ?_
              refine wl (eP 95 (v0 := .bool (decide (0 < 4))) (v := .bool true) hF (by kernel_rfl) (fun _ => by kernel_rfl) (bT (by omega)) fun a hF => ?_)
              refine wpList_nil ?_
              refine hK62 _ _ ?_
              refine wp_seq_k fun K63 hK63 => ?_
              refine cT hF (by kernel_rfl) (by kernel_rfl) ?_
              refine wp_skip ?_
              refine hK63 _ _ ?_
              refine wp_seq_k fun K64 hK64 => ?_
              refine wp_block ?_
              refine wp_seq_k fun K65 hK65 => ?_
              refine wp_region_lit ?_
              refine sB 1 [(96, .agg #[.int .i64 (-1), .int .i64 0])] hF (by kernel_rfl) fun a hF => ?_
              refine wl (eN 11 33 (t := 40) (fun b => .pointer (some ⟨b, 0, none⟩)) #[.int .i64 0, .int .i64 0] hF hM (by kernel_rfl) (fun _ => by kernel_rfl) fun bb33 a w hF hM => ?_)
              refine wl (sStore (i := 33) (off := 0) (cs' := #[.int .i64 (-1), .int .i64 0]) hF hM (by kernel_rfl) rfl rfl (by kernel_rfl) (by kernel_rfl) rfl (by kernel_rfl) fun w hM => ?_)
              refine wpList_nil ?_
              refine hK65 _ _ ?_
              refine wp_seq_k fun K66 hK66 => ?_
              refine wp_region_lit ?_
              refine wl (eL 98 2 0 (v := .agg #[.int .i64 131072, .int .i64 2]) hF hM (by kernel_rfl) rfl rfl (by kernel_rfl) (by kernel_rfl) fun a w hF hM => ?_)
              refine wl (eL 99 33 0 (v := .agg #[.int .i64 (-1), .int .i64 0]) hF hM (by kernel_rfl) rfl rfl (by kernel_rfl) (by kernel_rfl) fun a w hF hM => ?_)
              refine wl (eM 100 (v := .tuple #[.int .i64 0, .agg #[.int .i64 0, .int .i64 0], .int .i64 450]) hF hM (by kernel_rfl) ((yld_call (f := 20) (args := #[.agg #[.int .i64 131072, .int .i64 2], .agg #[.int .i64 (-1), .int .i64 0], .int .i64 (-1), .int .i64 (-1), .int .i64 0]) hF (by kernel_rfl) (fun _ => by kernel_rfl) (fun w hM => crStep_w 131072 2 (-1) 0 (-1) (-1) 0 w)).to (by kernel_rfl)) fun a w hF hM => ?_)
              refine sB 4 [(97, .tuple #[.int .i64 0, .agg #[.int .i64 0, .int .i64 0], .int .i64 450]), (101, .int .i64 0), (102, .agg #[.int .i64 0, .int .i64 0]), (103, .int .i64 450)] hF (by kernel_rfl) fun a hF => ?_
              refine wl (eN 13 34 (t := 40) (fun b => .pointer (some ⟨b, 0, none⟩)) #[.int .i64 0, .int .i64 0] hF hM (by kernel_rfl) (fun _ => by kernel_rfl) fun bb34 a w hF hM => ?_)
              refine sB 1 [(12, .int .i64 0)] hF (by kernel_rfl) fun a hF => ?_
              refine wl (sStore (i := 34) (off := 0) (cs' := #[.int .i64 0, .int .i64 0]) hF hM (by kernel_rfl) rfl rfl (by kernel_rfl) (by kernel_rfl) rfl (by kernel_rfl) fun w hM => ?_)
              refine sB 1 [(14, .int .i64 450)] hF (by kernel_rfl) fun a hF => ?_
              refine wpList_nil ?_
              refine hK66 _ _ ?_
              refine wp_seq_k fun K67 hK67 => ?_
              refine wp_region_lit ?_
              refine wl (eL 104 33 0 (v := .agg #[.int .i64 (-1), .int .i64 0]) hF hM (by kernel_rfl) rfl rfl (by kernel_rfl) (by kernel_rfl) fun a w hF hM => ?_)
              refine wl (eM 105 (v := .int .i64 450) hF hM (by kernel_rfl) ((yld_call (f := 18) (args := #[.agg #[.int .i64 (-1), .int .i64 0]]) hF (by kernel_rfl) (fun _ => by kernel_rfl) (fun w hM => crState_w (-1) 0 w)).to (by kernel_rfl)) fun a w hF hM => ?_)
              refine wl (eP 106 (v0 := .bool (!decide (450 = 450))) (v := .bool false) hF (by kernel_rfl) (fun _ => by kernel_rfl) (nT (by omega)) fun a hF => ?_)
              refine sB 2 [(107, .bool false), (108, .int .i64 450)] hF (by kernel_rfl) fun a hF => ?_
              refine wl (eP 109 (v0 := .bool (!decide (450 = 450))) (v := .bool false) hF (by kernel_rfl) (fun _ => by kernel_rfl) (nT (by omega)) fun a hF => ?_)
              refine sB 1 [(110, .bool false)] hF (by kernel_rfl) fun a hF => ?_
              refine wpList_nil ?_
              refine hK67 _ _ ?_
              refine cF hF (by kernel_rfl) (by kernel_rfl) ?_
              refine wp_skip ?_
              refine hK64 _ _ ?_
              refine wp_region_lit ?_
              refine wl (eP 111 (v0 := .int .i64 (IntKind.i64.wrap (0 + 1))) (v := .int .i64 1) hF (by kernel_rfl) (fun _ => by kernel_rfl) (vi (by decide)) fun a hF => ?_)
              refine sB 1 [(94, .int .i64 1)] hF (by kernel_rfl) fun a hF => ?_
              refine wpList_nil ?_
              refine hK61 _ _ ?_
              refine rounds_k fun K68 hK68 => ?_
              refine wp_seq_k fun K69 hK69 => ?_
              refine wp_region_lit ?_
              refine wl (eP 95 (v0 := .bool (decide (1 < 4))) (v := .bool true) hF (by kernel_rfl) (fun _ => by kernel_rfl) (bT (by omega)) fun a hF => ?_)
              refine wpList_nil ?_
              refine hK69 _ _ ?_
              refine wp_seq_k fun K70 hK70 => ?_
              refine cT hF (by kernel_rfl) (by kernel_rfl) ?_
              refine wp_skip ?_
              refine hK70 _ _ ?_
              refine wp_seq_k fun K71 hK71 => ?_
              refine wp_block ?_
              refine wp_seq_k fun K72 hK72 => ?_
              refine wp_region_lit ?_
              refine sB 1 [(96, .agg #[.int .i64 1073741825, .int .i64 0])] hF (by kernel_rfl) fun a hF => ?_
              refine wl (eN 11 35 (t := 40) (fun b => .pointer (some ⟨b, 0, none⟩)) #[.int .i64 0, .int .i64 0] hF hM (by kernel_rfl) (fun _ => by kernel_rfl) fun bb35 a w hF hM => ?_)
              refine wl (sStore (i := 35) (off := 0) (cs' := #[.int .i64 1073741825, .int .i64 0]) hF hM (by kernel_rfl) rfl rfl (by kernel_rfl) (by kernel_rfl) rfl (by kernel_rfl) fun w hM => ?_)
              refine wpList_nil ?_
              refine hK72 _ _ ?_
              refine wp_seq_k fun K73 hK73 => ?_
              refine wp_region_lit ?_
              refine wl (eL 98 2 0 (v := .agg #[.int .i64 131072, .int .i64 2]) hF hM (by kernel_rfl) rfl rfl (by kernel_rfl) (by kernel_rfl) fun a w hF hM => ?_)
              refine wl (eL 99 35 0 (v := .agg #[.int .i64 1073741825, .int .i64 0]) hF hM (by kernel_rfl) rfl rfl (by kernel_rfl) (by kernel_rfl) fun a w hF hM => ?_)
              refine wl (eM 100 (v := .tuple #[.int .i64 0, .agg #[.int .i64 0, .int .i64 0], .int .i64 450]) hF hM (by kernel_rfl) ((yld_call (f := 20) (args := #[.agg #[.int .i64 131072, .int .i64 2], .agg #[.int .i64 1073741825, .int .i64 0], .int .i64 (-1), .int .i64 (-1), .int .i64 0]) hF (by kernel_rfl) (fun _ => by kernel_rfl) (fun w hM => crStep_w 131072 2 1073741825 0 (-1) (-1) 0 w)).to (by kernel_rfl)) fun a w hF hM => ?_)
              refine sB 4 [(97, .tuple #[.int .i64 0, .agg #[.int .i64 0, .int .i64 0], .int .i64 450]), (101, .int .i64 0), (102, .agg #[.int .i64 0, .int .i64 0]), (103, .int .i64 450)] hF (by kernel_rfl) fun a hF => ?_
              refine wl (eN 13 36 (t := 40) (fun b => .pointer (some ⟨b, 0, none⟩)) #[.int .i64 0, .int .i64 0] hF hM (by kernel_rfl) (fun _ => by kernel_rfl) fun bb36 a w hF hM => ?_)
              refine sB 1 [(12, .int .i64 0)] hF (by kernel_rfl) fun a hF => ?_
              refine wl (sStore (i := 36) (off := 0) (cs' := #[.int .i64 0, .int .i64 0]) hF hM (by kernel_rfl) rfl rfl (by kernel_rfl) (by kernel_rfl) rfl (by kernel_rfl) fun w hM => ?_)
              refine sB 1 [(14, .int .i64 450)] hF (by kernel_rfl) fun a hF => ?_
              refine wpList_nil ?_
              refine hK73 _ _ ?_
              refine wp_seq_k fun K74 hK74 => ?_
              refine wp_region_lit ?_
              refine wl (eL 104 35 0 (v := .agg #[.int .i64 1073741825, .int .i64 0]) hF hM (by kernel_rfl) rfl rfl (by kernel_rfl) (by kernel_rfl) fun a w hF hM => ?_)
              refine wl (eM 105 (v := .int .i64 450) hF hM (by kernel_rfl) ((yld_call (f := 18) (args := #[.agg #[.int .i64 1073741825, .int .i64 0]]) hF (by kernel_rfl) (fun _ => by kernel_rfl) (fun w hM => crState_w 1073741825 0 w)).to (by kernel_rfl)) fun a w hF hM => ?_)
              refine wl (eP 106 (v0 := .bool (!decide (450 = 450))) (v := .bool false) hF (by kernel_rfl) (fun _ => by kernel_rfl) (nT (by omega)) fun a hF => ?_)
              refine sB 2 [(107, .bool false), (108, .int .i64 450)] hF (by kernel_rfl) fun a hF => ?_
              refine wl (eP 109 (v0 := .bool (!decide (450 = 450))) (v := .bool false) hF (by kernel_rfl) (fun _ => by kernel_rfl) (nT (by omega)) fun a hF => ?_)
              refine sB 1 [(110, .bool false)] hF (by kernel_rfl) fun a hF => ?_
              refine wpList_nil ?_
              refine hK74 _ _ ?_
              refine cF hF (by kernel_rfl) (by kernel_rfl) ?_
              refine wp_skip ?_
              refine hK71 _ _ ?_
              refine wp_region_lit ?_
              refine wl (eP 111 (v0 := .int .i64 (IntKind.i64.wrap (1 + 1))) (v := .int .i64 2) hF (by kernel_rfl) (fun _ => by kernel_rfl) (vi (by decide)) fun a hF => ?_)
              refine sB 1 [(94, .int .i64 2)] hF (by kernel_rfl) fun a hF => ?_
              refine wpList_nil ?_
              refine hK68 _ _ ?_
              refine rounds_k fun K75 hK75 => ?_
              refine wp_seq_k fun K76 hK76 => ?_
              refine wp_region_lit ?_
              refine wl (eP 95 (v0 := .bool (decide (2 < 4))) (v := .bool true) hF (by kernel_rfl) (fun _ => by kernel_rfl) (bT (by omega)) fun a hF => ?_)
              refine wpList_nil ?_
              refine hK76 _ _ ?_
              refine wp_seq_k fun K77 hK77 => ?_
              refine cT hF (by kernel_rfl) (by kernel_rfl) ?_
              refine wp_skip ?_
              refine hK77 _ _ ?_
              refine wp_seq_k fun K78 hK78 => ?_
              refine wp_block ?_
              refine wp_seq_k fun K79 hK79 => ?_
              refine wp_region_lit ?_
              refine sB 1 [(96, .agg #[.int .i64 0, .int .i64 (-1616904193)])] hF (by kernel_rfl) fun a hF => ?_
              refine wl (eN 11 37 (t := 40) (fun b => .pointer (some ⟨b, 0, none⟩)) #[.int .i64 0, .int .i64 0] hF hM (by kernel_rfl) (fun _ => by kernel_rfl) fun bb37 a w hF hM => ?_)
              refine wl (sStore (i := 37) (off := 0) (cs' := #[.int .i64 0, .int .i64 (-1616904193)]) hF hM (by kernel_rfl) rfl rfl (by kernel_rfl) (by kernel_rfl) rfl (by kernel_rfl) fun w hM => ?_)
              refine wpList_nil ?_
              refine hK79 _ _ ?_
              refine wp_seq_k fun K80 hK80 => ?_
              refine wp_region_lit ?_
              refine wl (eL 98 2 0 (v := .agg #[.int .i64 131072, .int .i64 2]) hF hM (by kernel_rfl) rfl rfl (by kernel_rfl) (by kernel_rfl) fun a w hF hM => ?_)
              refine wl (eL 99 37 0 (v := .agg #[.int .i64 0, .int .i64 (-1616904193)]) hF hM (by kernel_rfl) rfl rfl (by kernel_rfl) (by kernel_rfl) fun a w hF hM => ?_)
              refine wl (eM 100 (v := .tuple #[.int .i64 0, .agg #[.int .i64 0, .int .i64 0], .int .i64 450]) hF hM (by kernel_rfl) ((yld_call (f := 20) (args := #[.agg #[.int .i64 131072, .int .i64 2], .agg #[.int .i64 0, .int .i64 (-1616904193)], .int .i64 (-1), .int .i64 (-1), .int .i64 0]) hF (by kernel_rfl) (fun _ => by kernel_rfl) (fun w hM => crStep_w 131072 2 0 (-1616904193) (-1) (-1) 0 w)).to (by kernel_rfl)) fun a w hF hM => ?_)
              refine sB 4 [(97, .tuple #[.int .i64 0, .agg #[.int .i64 0, .int .i64 0], .int .i64 450]), (101, .int .i64 0), (102, .agg #[.int .i64 0, .int .i64 0]), (103, .int .i64 450)] hF (by kernel_rfl) fun a hF => ?_
              refine wl (eN 13 38 (t := 40) (fun b => .pointer (some ⟨b, 0, none⟩)) #[.int .i64 0, .int .i64 0] hF hM (by kernel_rfl) (fun _ => by kernel_rfl) fun bb38 a w hF hM => ?_)
              refine sB 1 [(12, .int .i64 0)] hF (by kernel_rfl) fun a hF => ?_
              refine wl (sStore (i := 38) (off := 0) (cs' := #[.int .i64 0, .int .i64 0]) hF hM (by kernel_rfl) rfl rfl (by kernel_rfl) (by kernel_rfl) rfl (by kernel_rfl) fun w hM => ?_)
              refine sB 1 [(14, .int .i64 450)] hF (by kernel_rfl) fun a hF => ?_
              refine wpList_nil ?_
              refine hK80 _ _ ?_
              refine wp_seq_k fun K81 hK81 => ?_
              refine wp_region_lit ?_
              refine wl (eL 104 37 0 (v := .agg #[.int .i64 0, .int .i64 (-1616904193)]) hF hM (by kernel_rfl) rfl rfl (by kernel_rfl) (by kernel_rfl) fun a w hF hM => ?_)
              refine wl (eM 105 (v := .int .i64 450) hF hM (by kernel_rfl) ((yld_call (f := 18) (args := #[.agg #[.int .i64 0, .int .i64 (-1616904193)]]) hF (by kernel_rfl) (fun _ => by kernel_rfl) (fun w hM => crState_w 0 (-1616904193) w)).to (by kernel_rfl)) fun a w hF hM => ?_)
              refine wl (eP 106 (v0 := .bool (!decide (450 = 450))) (v := .bool false) hF (by kernel_rfl) (fun _ => by kernel_rfl) (nT (by omega)) fun a hF => ?_)
              refine sB 2 [(107, .bool false), (108, .int .i64 450)] hF (by kernel_rfl) fun a hF => ?_
              refine wl (eP 109 (v0 := .bool (!decide (450 = 450))) (v := .bool false) hF (by kernel_rfl) (fun _ => by kernel_rfl) (nT (by omega)) fun a hF => ?_)
              refine sB 1 [(110, .bool false)] hF (by kernel_rfl) fun a hF => ?_
              refine wpList_nil ?_
              refine hK81 _ _ ?_
              refine cF hF (by kernel_rfl) (by kernel_rfl) ?_
              refine wp_skip ?_
              refine hK78 _ _ ?_
              refine wp_region_lit ?_
              refine wl (eP 111 (v0 := .int .i64 (IntKind.i64.wrap (2 + 1))) (v := .int .i64 3) hF (by kernel_rfl) (fun _ => by kernel_rfl) (vi (by decide)) fun a hF => ?_)
              refine sB 1 [(94, .int .i64 3)] hF (by kernel_rfl) fun a hF => ?_
              refine wpList_nil ?_
              refine hK75 _ _ ?_
              refine rounds_k fun K82 hK82 => ?_
              refine wp_seq_k fun K83 hK83 => ?_
              refine wp_region_lit ?_
              refine wl (eP 95 (v0 := .bool (decide (3 < 4))) (v := .bool true) hF (by kernel_rfl) (fun _ => by kernel_rfl) (bT (by omega)) fun a hF => ?_)
              refine wpList_nil ?_
              refine hK83 _ _ ?_
              refine wp_seq_k fun K84 hK84 => ?_
              refine cT hF (by kernel_rfl) (by kernel_rfl) ?_
              refine wp_skip ?_
              refine hK84 _ _ ?_
              refine wp_seq_k fun K85 hK85 => ?_
              refine wp_block ?_
              refine wp_seq_k fun K86 hK86 => ?_
              refine wp_region_lit ?_
              refine sB 1 [(96, .agg #[.int .i64 0, .int .i64 1125899906842625])] hF (by kernel_rfl) fun a hF => ?_
              refine wl (eN 11 39 (t := 40) (fun b => .pointer (some ⟨b, 0, none⟩)) #[.int .i64 0, .int .i64 0] hF hM (by kernel_rfl) (fun _ => by kernel_rfl) fun bb39 a w hF hM => ?_)
              refine wl (sStore (i := 39) (off := 0) (cs' := #[.int .i64 0, .int .i64 1125899906842625]) hF hM (by kernel_rfl) rfl rfl (by kernel_rfl) (by kernel_rfl) rfl (by kernel_rfl) fun w hM => ?_)
              refine wpList_nil ?_
              refine hK86 _ _ ?_
              refine wp_seq_k fun K87 hK87 => ?_
              refine wp_region_lit ?_
              refine wl (eL 98 2 0 (v := .agg #[.int .i64 131072, .int .i64 2]) hF hM (by kernel_rfl) rfl rfl (by kernel_rfl) (by kernel_rfl) fun a w hF hM => ?_)
              refine wl (eL 99 39 0 (v := .agg #[.int .i64 0, .int .i64 1125899906842625]) hF hM (by kernel_rfl) rfl rfl (by kernel_rfl) (by kernel_rfl) fun a w hF hM => ?_)
              refine wl (eM 100 (v := .tuple #[.int .i64 0, .agg #[.int .i64 0, .int .i64 0], .int .i64 450]) hF hM (by kernel_rfl) ((yld_call (f := 20) (args := #[.agg #[.int .i64 131072, .int .i64 2], .agg #[.int .i64 0, .int .i64 1125899906842625], .int .i64 (-1), .int .i64 (-1), .int .i64 0]) hF (by kernel_rfl) (fun _ => by kernel_rfl) (fun w hM => crStep_w 131072 2 0 1125899906842625 (-1) (-1) 0 w)).to (by kernel_rfl)) fun a w hF hM => ?_)
              refine sB 4 [(97, .tuple #[.int .i64 0, .agg #[.int .i64 0, .int .i64 0], .int .i64 450]), (101, .int .i64 0), (102, .agg #[.int .i64 0, .int .i64 0]), (103, .int .i64 450)] hF (by kernel_rfl) fun a hF => ?_
              refine wl (eN 13 40 (t := 40) (fun b => .pointer (some ⟨b, 0, none⟩)) #[.int .i64 0, .int .i64 0] hF hM (by kernel_rfl) (fun _ => by kernel_rfl) fun bb40 a w hF hM => ?_)
              refine sB 1 [(12, .int .i64 0)] hF (by kernel_rfl) fun a hF => ?_
              refine wl (sStore (i := 40) (off := 0) (cs' := #[.int .i64 0, .int .i64 0]) hF hM (by kernel_rfl) rfl rfl (by kernel_rfl) (by kernel_rfl) rfl (by kernel_rfl) fun w hM => ?_)
              refine sB 1 [(14, .int .i64 450)] hF (by kernel_rfl) fun a hF => ?_
              refine wpList_nil ?_
              refine hK87 _ _ ?_
              refine wp_seq_k fun K88 hK88 => ?_
              refine wp_region_lit ?_
              refine wl (eL 104 39 0 (v := .agg #[.int .i64 0, .int .i64 1125899906842625]) hF hM (by kernel_rfl) rfl rfl (by kernel_rfl) (by kernel_rfl) fun a w hF hM => ?_)
              refine wl (eM 105 (v := .int .i64 450) hF hM (by kernel_rfl) ((yld_call (f := 18) (args := #[.agg #[.int .i64 0, .int .i64 1125899906842625]]) hF (by kernel_rfl) (fun _ => by kernel_rfl) (fun w hM => crState_w 0 1125899906842625 w)).to (by kernel_rfl)) fun a w hF hM => ?_)
              refine wl (eP 106 (v0 := .bool (!decide (450 = 450))) (v := .bool false) hF (by kernel_rfl) (fun _ => by kernel_rfl) (nT (by omega)) fun a hF => ?_)
              refine sB 2 [(107, .bool false), (108, .int .i64 450)] hF (by kernel_rfl) fun a hF => ?_
              refine wl (eP 109 (v0 := .bool (!decide (450 = 450))) (v := .bool false) hF (by kernel_rfl) (fun _ => by kernel_rfl) (nT (by omega)) fun a hF => ?_)
              refine sB 1 [(110, .bool false)] hF (by kernel_rfl) fun a hF => ?_
              refine wpList_nil ?_
              refine hK88 _ _ ?_
              refine cF hF (by kernel_rfl) (by kernel_rfl) ?_
              refine wp_skip ?_
              refine hK85 _ _ ?_
              refine wp_region_lit ?_
              refine wl (eP 111 (v0 := .int .i64 (IntKind.i64.wrap (3 + 1))) (v := .int .i64 4) hF (by kernel_rfl) (fun _ => by kernel_rfl) (vi (by decide)) fun a hF => ?_)
              refine sB 1 [(94, .int .i64 4)] hF (by kernel_rfl) fun a hF => ?_
              refine wpList_nil ?_
              refine hK82 _ _ ?_
              refine rounds_k fun K89 hK89 => ?_
              refine wp_seq_k fun K90 hK90 => ?_
              refine wp_region_lit ?_
              refine wl (eP 95 (v0 := .bool (decide (4 < 4))) (v := .bool false) hF (by kernel_rfl) (fun _ => by kernel_rfl) (bF (by omega)) fun a hF => ?_)
              refine wpList_nil ?_
              refine hK90 _ _ ?_
              refine wp_seq_k fun K91 hK91 => ?_
              refine cF hF (by kernel_rfl) (by kernel_rfl) ?_
              refine wp_exit ?_
              refine hK59 _ _ ?_
              refine wp_seq_k fun K92 hK92 => ?_
              refine wp_seq_k fun K93 hK93 => ?_
              refine wp_region_lit ?_
              refine sB 8 [(112, .agg #[.int .i64 (-1), .int .i64 0, .int .i64 1]), (113, .agg #[.int .i64 1073741825, .int .i64 0, .int .i64 1]), (114, .agg #[.int .i64 0, .int .i64 (-1), .int .i64 1]), (115, .agg #[.int .i64 0, .int .i64 1073741825, .int .i64 1]), (116, .agg #[.int .i64 0, .int .i64 0, .int .i64 0]), (117, .agg #[.int .i64 0, .int .i64 0, .int .i64 1543]), (118, .agg #[.int .i64 (-1), .int .i64 0, .int .i64 1, .int .i64 1073741825, .int .i64 0, .int .i64 1, .int .i64 0, .int .i64 (-1), .int .i64 1, .int .i64 0, .int .i64 1073741825, .int .i64 1, .int .i64 0, .int .i64 0, .int .i64 0, .int .i64 0, .int .i64 0, .int .i64 1543]), (119, .int .i64 0)] hF (by kernel_rfl) fun a hF => ?_
              refine wpList_nil ?_
              refine hK93 _ _ ?_
              refine wp_block ?_
              refine wp_loop_rounds 7 ?_
              refine rounds_k fun K94 hK94 => ?_
              refine wp_seq_k fun K95 hK95 => ?_
              refine wp_region_lit ?_
              refine wl (eP 120 (v0 := .bool (decide (0 < 6))) (v := .bool true) hF (by kernel_rfl) (fun _ => by kernel_rfl) (bT (by omega)) fun a hF => ?_)
              refine wpList_nil ?_
              refine hK95 _ _ ?_
              refine wp_seq_k fun K96 hK96 => ?_
              refine cT hF (by kernel_rfl) (by kernel_rfl) ?_
              refine wp_skip ?_
              refine hK96 _ _ ?_
              refine wp_seq_k fun K97 hK97 => ?_
              refine wp_block ?_
              refine wp_seq_k fun K98 hK98 => ?_
              refine wp_region_lit ?_
              refine sB 1 [(121, .agg #[.int .i64 (-1), .int .i64 0, .int .i64 1])] hF (by kernel_rfl) fun a hF => ?_
              refine wl (eN 16 41 (t := 47) (fun b => .pointer (some ⟨b, 0, none⟩)) #[.int .i64 0, .int .i64 0, .int .i64 0] hF hM (by kernel_rfl) (fun _ => by kernel_rfl) fun bb41 a w hF hM => ?_)
              refine wl (sStore (i := 41) (off := 0) (cs' := #[.int .i64 (-1), .int .i64 0, .int .i64 1]) hF hM (by kernel_rfl) rfl rfl (by kernel_rfl) (by kernel_rfl) rfl (by kernel_rfl) fun w hM => ?_)
              refine wpList_nil ?_
              refine hK98 _ _ ?_
              refine wp_seq_k fun K99 hK99 => ?_
              refine wp_region_lit ?_
              refine wl (eL 123 2 0 (v := .agg #[.int .i64 131072, .int .i64 2]) hF hM (by kernel_rfl) rfl rfl (by kernel_rfl) (by kernel_rfl) fun a w hF hM => ?_)
              refine sB 2 [(124, .agg #[.int .i64 0, .int .i64 0]), (125, .pointer (some ⟨bb41, 0, none⟩))] hF (by kernel_rfl) fun a hF => ?_
              refine wl (eL 126 41 0 (v := .int .i64 (-1)) hF hM (by kernel_rfl) rfl rfl (by kernel_rfl) (by kernel_rfl) fun a w hF hM => ?_)
              refine sB 1 [(127, .pointer (some ⟨bb41, 1, none⟩))] hF (by kernel_rfl) fun a hF => ?_
              refine wl (eL 128 41 1 (v := .int .i64 0) hF hM (by kernel_rfl) rfl rfl (by kernel_rfl) (by kernel_rfl) fun a w hF hM => ?_)
              refine sB 1 [(129, .pointer (some ⟨bb41, 2, none⟩))] hF (by kernel_rfl) fun a hF => ?_
              refine wl (eL 130 41 2 (v := .int .i64 1) hF hM (by kernel_rfl) rfl rfl (by kernel_rfl) (by kernel_rfl) fun a w hF hM => ?_)
              refine wl (eM 131 (v := .tuple #[.int .i64 0, .agg #[.int .i64 0, .int .i64 0], .int .i64 2]) hF hM (by kernel_rfl) ((yld_call (f := 20) (args := #[.agg #[.int .i64 131072, .int .i64 2], .agg #[.int .i64 0, .int .i64 0], .int .i64 (-1), .int .i64 0, .int .i64 1]) hF (by kernel_rfl) (fun _ => by kernel_rfl) (fun w hM => crStep_w 131072 2 0 0 (-1) 0 1 w)).to (by kernel_rfl)) fun a w hF hM => ?_)
              refine sB 4 [(122, .tuple #[.int .i64 0, .agg #[.int .i64 0, .int .i64 0], .int .i64 2]), (132, .int .i64 0), (133, .agg #[.int .i64 0, .int .i64 0]), (134, .int .i64 2)] hF (by kernel_rfl) fun a hF => ?_
              refine wl (eN 18 42 (t := 40) (fun b => .pointer (some ⟨b, 0, none⟩)) #[.int .i64 0, .int .i64 0] hF hM (by kernel_rfl) (fun _ => by kernel_rfl) fun bb42 a w hF hM => ?_)
              refine sB 1 [(17, .int .i64 0)] hF (by kernel_rfl) fun a hF => ?_
              refine wl (sStore (i := 42) (off := 0) (cs' := #[.int .i64 0, .int .i64 0]) hF hM (by kernel_rfl) rfl rfl (by kernel_rfl) (by kernel_rfl) rfl (by kernel_rfl) fun w hM => ?_)
              refine sB 1 [(19, .int .i64 2)] hF (by kernel_rfl) fun a hF => ?_
              refine wpList_nil ?_
              refine hK99 _ _ ?_
              refine wp_seq_k fun K100 hK100 => ?_
              refine wp_region_lit ?_
              refine sB 1 [(135, .int .i64 2)] hF (by kernel_rfl) fun a hF => ?_
              refine wl (eP 136 (v0 := .bool (!decide (2 = 2))) (v := .bool false) hF (by kernel_rfl) (fun _ => by kernel_rfl) (nT (by omega)) fun a hF => ?_)
              refine wpList_nil ?_
              refine hK100 _ _ ?_
              refine cF hF (by kernel_rfl) (by kernel_rfl) ?_
              refine wp_skip ?_
              refine hK97 _ _ ?_
              refine wp_region_lit ?_
              refine wl (eP 137 (v0 := .int .i64 (IntKind.i64.wrap (0 + 1))) (v := .int .i64 1) hF (by kernel_rfl) (fun _ => by kernel_rfl) (vi (by decide)) fun a hF => ?_)
              refine sB 1 [(119, .int .i64 1)] hF (by kernel_rfl) fun a hF => ?_
              refine wpList_nil ?_
              refine hK94 _ _ ?_
              refine rounds_k fun K101 hK101 => ?_
              refine wp_seq_k fun K102 hK102 => ?_
              refine wp_region_lit ?_
              refine wl (eP 120 (v0 := .bool (decide (1 < 6))) (v := .bool true) hF (by kernel_rfl) (fun _ => by kernel_rfl) (bT (by omega)) fun a hF => ?_)
              refine wpList_nil ?_
              refine hK102 _ _ ?_
              refine wp_seq_k fun K103 hK103 => ?_
              refine cT hF (by kernel_rfl) (by kernel_rfl) ?_
              refine wp_skip ?_
              refine hK103 _ _ ?_
              refine wp_seq_k fun K104 hK104 => ?_
              refine wp_block ?_
              refine wp_seq_k fun K105 hK105 => ?_
              refine wp_region_lit ?_
              refine sB 1 [(121, .agg #[.int .i64 1073741825, .int .i64 0, .int .i64 1])] hF (by kernel_rfl) fun a hF => ?_
              refine wl (eN 16 43 (t := 47) (fun b => .pointer (some ⟨b, 0, none⟩)) #[.int .i64 0, .int .i64 0, .int .i64 0] hF hM (by kernel_rfl) (fun _ => by kernel_rfl) fun bb43 a w hF hM => ?_)
              refine wl (sStore (i := 43) (off := 0) (cs' := #[.int .i64 1073741825, .int .i64 0, .int .i64 1]) hF hM (by kernel_rfl) rfl rfl (by kernel_rfl) (by kernel_rfl) rfl (by kernel_rfl) fun w hM => ?_)
              refine wpList_nil ?_
              refine hK105 _ _ ?_
              refine wp_seq_k fun K106 hK106 => ?_
              refine wp_region_lit ?_
              refine wl (eL 123 2 0 (v := .agg #[.int .i64 131072, .int .i64 2]) hF hM (by kernel_rfl) rfl rfl (by kernel_rfl) (by kernel_rfl) fun a w hF hM => ?_)
              refine sB 2 [(124, .agg #[.int .i64 0, .int .i64 0]), (125, .pointer (some ⟨bb43, 0, none⟩))] hF (by kernel_rfl) fun a hF => ?_
              refine wl (eL 126 43 0 (v := .int .i64 1073741825) hF hM (by kernel_rfl) rfl rfl (by kernel_rfl) (by kernel_rfl) fun a w hF hM => ?_)
              refine sB 1 [(127, .pointer (some ⟨bb43, 1, none⟩))] hF (by kernel_rfl) fun a hF => ?_
              refine wl (eL 128 43 1 (v := .int .i64 0) hF hM (by kernel_rfl) rfl rfl (by kernel_rfl) (by kernel_rfl) fun a w hF hM => ?_)
              refine sB 1 [(129, .pointer (some ⟨bb43, 2, none⟩))] hF (by kernel_rfl) fun a hF => ?_
              refine wl (eL 130 43 2 (v := .int .i64 1) hF hM (by kernel_rfl) rfl rfl (by kernel_rfl) (by kernel_rfl) fun a w hF hM => ?_)
              refine wl (eM 131 (v := .tuple #[.int .i64 0, .agg #[.int .i64 0, .int .i64 0], .int .i64 2]) hF hM (by kernel_rfl) ((yld_call (f := 20) (args := #[.agg #[.int .i64 131072, .int .i64 2], .agg #[.int .i64 0, .int .i64 0], .int .i64 1073741825, .int .i64 0, .int .i64 1]) hF (by kernel_rfl) (fun _ => by kernel_rfl) (fun w hM => crStep_w 131072 2 0 0 1073741825 0 1 w)).to (by kernel_rfl)) fun a w hF hM => ?_)
              refine sB 4 [(122, .tuple #[.int .i64 0, .agg #[.int .i64 0, .int .i64 0], .int .i64 2]), (132, .int .i64 0), (133, .agg #[.int .i64 0, .int .i64 0]), (134, .int .i64 2)] hF (by kernel_rfl) fun a hF => ?_
              refine wl (eN 18 44 (t := 40) (fun b => .pointer (some ⟨b, 0, none⟩)) #[.int .i64 0, .int .i64 0] hF hM (by kernel_rfl) (fun _ => by kernel_rfl) fun bb44 a w hF hM => ?_)
              refine sB 1 [(17, .int .i64 0)] hF (by kernel_rfl) fun a hF => ?_
              refine wl (sStore (i := 44) (off := 0) (cs' := #[.int .i64 0, .int .i64 0]) hF hM (by kernel_rfl) rfl rfl (by kernel_rfl) (by kernel_rfl) rfl (by kernel_rfl) fun w hM => ?_)
              refine sB 1 [(19, .int .i64 2)] hF (by kernel_rfl) fun a hF => ?_
              refine wpList_nil ?_
              refine hK106 _ _ ?_
              refine wp_seq_k fun K107 hK107 => ?_
              refine wp_region_lit ?_
              refine sB 1 [(135, .int .i64 2)] hF (by kernel_rfl) fun a hF => ?_
              refine wl (eP 136 (v0 := .bool (!decide (2 = 2))) (v := .bool false) hF (by kernel_rfl) (fun _ => by kernel_rfl) (nT (by omega)) fun a hF => ?_)
              refine wpList_nil ?_
              refine hK107 _ _ ?_
              refine cF hF (by kernel_rfl) (by kernel_rfl) ?_
              refine wp_skip ?_
              refine hK104 _ _ ?_
              refine wp_region_lit ?_
              refine wl (eP 137 (v0 := .int .i64 (IntKind.i64.wrap (1 + 1))) (v := .int .i64 2) hF (by kernel_rfl) (fun _ => by kernel_rfl) (vi (by decide)) fun a hF => ?_)
              refine sB 1 [(119, .int .i64 2)] hF (by kernel_rfl) fun a hF => ?_
              refine wpList_nil ?_
              refine hK101 _ _ ?_
              refine rounds_k fun K108 hK108 => ?_
              refine wp_seq_k fun K109 hK109 => ?_
              refine wp_region_lit ?_
              refine wl (eP 120 (v0 := .bool (decide (2 < 6))) (v := .bool true) hF (by kernel_rfl) (fun _ => by kernel_rfl) (bT (by omega)) fun a hF => ?_)
              refine wpList_nil ?_
              refine hK109 _ _ ?_
              refine wp_seq_k fun K110 hK110 => ?_
              refine cT hF (by kernel_rfl) (by kernel_rfl) ?_
              refine wp_skip ?_
              refine hK110 _ _ ?_
              refine wp_seq_k fun K111 hK111 => ?_
              refine wp_block ?_
              refine wp_seq_k fun K112 hK112 => ?_
              refine wp_region_lit ?_
              refine sB 1 [(121, .agg #[.int .i64 0, .int .i64 (-1), .int .i64 1])] hF (by kernel_rfl) fun a hF => ?_
              refine wl (eN 16 45 (t := 47) (fun b => .pointer (some ⟨b, 0, none⟩)) #[.int .i64 0, .int .i64 0, .int .i64 0] hF hM (by kernel_rfl) (fun _ => by kernel_rfl) fun bb45 a w hF hM => ?_)
              refine wl (sStore (i := 45) (off := 0) (cs' := #[.int .i64 0, .int .i64 (-1), .int .i64 1]) hF hM (by kernel_rfl) rfl rfl (by kernel_rfl) (by kernel_rfl) rfl (by kernel_rfl) fun w hM => ?_)
              refine wpList_nil ?_
              refine hK112 _ _ ?_
              refine wp_seq_k fun K113 hK113 => ?_
              refine wp_region_lit ?_
              refine wl (eL 123 2 0 (v := .agg #[.int .i64 131072, .int .i64 2]) hF hM (by kernel_rfl) rfl rfl (by kernel_rfl) (by kernel_rfl) fun a w hF hM => ?_)
              refine sB 2 [(124, .agg #[.int .i64 0, .int .i64 0]), (125, .pointer (some ⟨bb45, 0, none⟩))] hF (by kernel_rfl) fun a hF => ?_
              refine wl (eL 126 45 0 (v := .int .i64 0) hF hM (by kernel_rfl) rfl rfl (by kernel_rfl) (by kernel_rfl) fun a w hF hM => ?_)
              refine sB 1 [(127, .pointer (some ⟨bb45, 1, none⟩))] hF (by kernel_rfl) fun a hF => ?_
              refine wl (eL 128 45 1 (v := .int .i64 (-1)) hF hM (by kernel_rfl) rfl rfl (by kernel_rfl) (by kernel_rfl) fun a w hF hM => ?_)
              refine sB 1 [(129, .pointer (some ⟨bb45, 2, none⟩))] hF (by kernel_rfl) fun a hF => ?_
              refine wl (eL 130 45 2 (v := .int .i64 1) hF hM (by kernel_rfl) rfl rfl (by kernel_rfl) (by kernel_rfl) fun a w hF hM => ?_)
              refine wl (eM 131 (v := .tuple #[.int .i64 0, .agg #[.int .i64 0, .int .i64 0], .int .i64 2]) hF hM (by kernel_rfl) ((yld_call (f := 20) (args := #[.agg #[.int .i64 131072, .int .i64 2], .agg #[.int .i64 0, .int .i64 0], .int .i64 0, .int .i64 (-1), .int .i64 1]) hF (by kernel_rfl) (fun _ => by kernel_rfl) (fun w hM => crStep_w 131072 2 0 0 0 (-1) 1 w)).to (by kernel_rfl)) fun a w hF hM => ?_)
              refine sB 4 [(122, .tuple #[.int .i64 0, .agg #[.int .i64 0, .int .i64 0], .int .i64 2]), (132, .int .i64 0), (133, .agg #[.int .i64 0, .int .i64 0]), (134, .int .i64 2)] hF (by kernel_rfl) fun a hF => ?_
              refine wl (eN 18 46 (t := 40) (fun b => .pointer (some ⟨b, 0, none⟩)) #[.int .i64 0, .int .i64 0] hF hM (by kernel_rfl) (fun _ => by kernel_rfl) fun bb46 a w hF hM => ?_)
              refine sB 1 [(17, .int .i64 0)] hF (by kernel_rfl) fun a hF => ?_
              refine wl (sStore (i := 46) (off := 0) (cs' := #[.int .i64 0, .int .i64 0]) hF hM (by kernel_rfl) rfl rfl (by kernel_rfl) (by kernel_rfl) rfl (by kernel_rfl) fun w hM => ?_)
              refine sB 1 [(19, .int .i64 2)] hF (by kernel_rfl) fun a hF => ?_
              refine wpList_nil ?_
              refine hK113 _ _ ?_
              refine wp_seq_k fun K114 hK114 => ?_
              refine wp_region_lit ?_
              refine sB 1 [(135, .int .i64 2)] hF (by kernel_rfl) fun a hF => ?_
              refine wl (eP 136 (v0 := .bool (!decide (2 = 2))) (v := .bool false) hF (by kernel_rfl) (fun _ => by kernel_rfl) (nT (by omega)) fun a hF => ?_)
              refine wpList_nil ?_
              refine hK114 _ _ ?_
              refine cF hF (by kernel_rfl) (by kernel_rfl) ?_
              refine wp_skip ?_
              refine hK111 _ _ ?_
              refine wp_region_lit ?_
              refine wl (eP 137 (v0 := .int .i64 (IntKind.i64.wrap (2 + 1))) (v := .int .i64 3) hF (by kernel_rfl) (fun _ => by kernel_rfl) (vi (by decide)) fun a hF => ?_)
              refine sB 1 [(119, .int .i64 3)] hF (by kernel_rfl) fun a hF => ?_
              refine wpList_nil ?_
              refine hK108 _ _ ?_
              refine rounds_k fun K115 hK115 => ?_
              refine wp_seq_k fun K116 hK116 => ?_
              refine wp_region_lit ?_
              refine wl (eP 120 (v0 := .bool (decide (3 < 6))) (v := .bool true) hF (by kernel_rfl) (fun _ => by kernel_rfl) (bT (by omega)) fun a hF => ?_)
              refine wpList_nil ?_
              refine hK116 _ _ ?_
              refine wp_seq_k fun K117 hK117 => ?_
              refine cT hF (by kernel_rfl) (by kernel_rfl) ?_
              refine wp_skip ?_
              refine hK117 _ _ ?_
              refine wp_seq_k fun K118 hK118 => ?_
              refine wp_block ?_
              refine wp_seq_k fun K119 hK119 => ?_
              refine wp_region_lit ?_
              refine sB 1 [(121, .agg #[.int .i64 0, .int .i64 1073741825, .int .i64 1])] hF (by kernel_rfl) fun a hF => ?_
              refine wl (eN 16 47 (t := 47) (fun b => .pointer (some ⟨b, 0, none⟩)) #[.int .i64 0, .int .i64 0, .int .i64 0] hF hM (by kernel_rfl) (fun _ => by kernel_rfl) fun bb47 a w hF hM => ?_)
              refine wl (sStore (i := 47) (off := 0) (cs' := #[.int .i64 0, .int .i64 1073741825, .int .i64 1]) hF hM (by kernel_rfl) rfl rfl (by kernel_rfl) (by kernel_rfl) rfl (by kernel_rfl) fun w hM => ?_)
              refine wpList_nil ?_
              refine hK119 _ _ ?_
              refine wp_seq_k fun K120 hK120 => ?_
              refine wp_region_lit ?_
              refine wl (eL 123 2 0 (v := .agg #[.int .i64 131072, .int .i64 2]) hF hM (by kernel_rfl) rfl rfl (by kernel_rfl) (by kernel_rfl) fun a w hF hM => ?_)
              refine sB 2 [(124, .agg #[.int .i64 0, .int .i64 0]), (125, .pointer (some ⟨bb47, 0, none⟩))] hF (by kernel_rfl) fun a hF => ?_
              refine wl (eL 126 47 0 (v := .int .i64 0) hF hM (by kernel_rfl) rfl rfl (by kernel_rfl) (by kernel_rfl) fun a w hF hM => ?_)
              refine sB 1 [(127, .pointer (some ⟨bb47, 1, none⟩))] hF (by kernel_rfl) fun a hF => ?_
              refine wl (eL 128 47 1 (v := .int .i64 1073741825) hF hM (by kernel_rfl) rfl rfl (by kernel_rfl) (by kernel_rfl) fun a w hF hM => ?_)
              refine sB 1 [(129, .pointer (some ⟨bb47, 2, none⟩))] hF (by kernel_rfl) fun a hF => ?_
              refine wl (eL 130 47 2 (v := .int .i64 1) hF hM (by kernel_rfl) rfl rfl (by kernel_rfl) (by kernel_rfl) fun a w hF hM => ?_)
              refine wl (eM 131 (v := .tuple #[.int .i64 0, .agg #[.int .i64 0, .int .i64 0], .int .i64 2]) hF hM (by kernel_rfl) ((yld_call (f := 20) (args := #[.agg #[.int .i64 131072, .int .i64 2], .agg #[.int .i64 0, .int .i64 0], .int .i64 0, .int .i64 1073741825, .int .i64 1]) hF (by kernel_rfl) (fun _ => by kernel_rfl) (fun w hM => crStep_w 131072 2 0 0 0 1073741825 1 w)).to (by kernel_rfl)) fun a w hF hM => ?_)
              refine sB 4 [(122, .tuple #[.int .i64 0, .agg #[.int .i64 0, .int .i64 0], .int .i64 2]), (132, .int .i64 0), (133, .agg #[.int .i64 0, .int .i64 0]), (134, .int .i64 2)] hF (by kernel_rfl) fun a hF => ?_
              refine wl (eN 18 48 (t := 40) (fun b => .pointer (some ⟨b, 0, none⟩)) #[.int .i64 0, .int .i64 0] hF hM (by kernel_rfl) (fun _ => by kernel_rfl) fun bb48 a w hF hM => ?_)
              refine sB 1 [(17, .int .i64 0)] hF (by kernel_rfl) fun a hF => ?_
              refine wl (sStore (i := 48) (off := 0) (cs' := #[.int .i64 0, .int .i64 0]) hF hM (by kernel_rfl) rfl rfl (by kernel_rfl) (by kernel_rfl) rfl (by kernel_rfl) fun w hM => ?_)
              refine sB 1 [(19, .int .i64 2)] hF (by kernel_rfl) fun a hF => ?_
              refine wpList_nil ?_
              refine hK120 _ _ ?_
              refine wp_seq_k fun K121 hK121 => ?_
              refine wp_region_lit ?_
              refine sB 1 [(135, .int .i64 2)] hF (by kernel_rfl) fun a hF => ?_
              refine wl (eP 136 (v0 := .bool (!decide (2 = 2))) (v := .bool false) hF (by kernel_rfl) (fun _ => by kernel_rfl) (nT (by omega)) fun a hF => ?_)
              refine wpList_nil ?_
              refine hK121 _ _ ?_
              refine cF hF (by kernel_rfl) (by kernel_rfl) ?_
              refine wp_skip ?_
              refine hK118 _ _ ?_
              refine wp_region_lit ?_
              refine wl (eP 137 (v0 := .int .i64 (IntKind.i64.wrap (3 + 1))) (v := .int .i64 4) hF (by kernel_rfl) (fun _ => by kernel_rfl) (vi (by decide)) fun a hF => ?_)
              refine sB 1 [(119, .int .i64 4)] hF (by kernel_rfl) fun a hF => ?_
              refine wpList_nil ?_
              refine hK115 _ _ ?_
              refine rounds_k fun K122 hK122 => ?_
              refine wp_seq_k fun K123 hK123 => ?_
              refine wp_region_lit ?_
              refine wl (eP 120 (v0 := .bool (decide (4 < 6))) (v := .bool true) hF (by kernel_rfl) (fun _ => by kernel_rfl) (bT (by omega)) fun a hF => ?_)
              refine wpList_nil ?_
              refine hK123 _ _ ?_
              refine wp_seq_k fun K124 hK124 => ?_
              refine cT hF (by kernel_rfl) (by kernel_rfl) ?_
              refine wp_skip ?_
              refine hK124 _ _ ?_
              refine wp_seq_k fun K125 hK125 => ?_
              refine wp_block ?_
              refine wp_seq_k fun K126 hK126 => ?_
              refine wp_region_lit ?_
              refine sB 1 [(121, .agg #[.int .i64 0, .int .i64 0, .int .i64 0])] hF (by kernel_rfl) fun a hF => ?_
              refine wl (eN 16 49 (t := 47) (fun b => .pointer (some ⟨b, 0, none⟩)) #[.int .i64 0, .int .i64 0, .int .i64 0] hF hM (by kernel_rfl) (fun _ => by kernel_rfl) fun bb49 a w hF hM => ?_)
              refine wl (sStore (i := 49) (off := 0) (cs' := #[.int .i64 0, .int .i64 0, .int .i64 0]) hF hM (by kernel_rfl) rfl rfl (by kernel_rfl) (by kernel_rfl) rfl (by kernel_rfl) fun w hM => ?_)
              refine wpList_nil ?_
              refine hK126 _ _ ?_
              refine wp_seq_k fun K127 hK127 => ?_
              refine wp_region_lit ?_
              refine wl (eL 123 2 0 (v := .agg #[.int .i64 131072, .int .i64 2]) hF hM (by kernel_rfl) rfl rfl (by kernel_rfl) (by kernel_rfl) fun a w hF hM => ?_)
              refine sB 2 [(124, .agg #[.int .i64 0, .int .i64 0]), (125, .pointer (some ⟨bb49, 0, none⟩))] hF (by kernel_rfl) fun a hF => ?_
              refine wl (eL 126 49 0 (v := .int .i64 0) hF hM (by kernel_rfl) rfl rfl (by kernel_rfl) (by kernel_rfl) fun a w hF hM => ?_)
              refine sB 1 [(127, .pointer (some ⟨bb49, 1, none⟩))] hF (by kernel_rfl) fun a hF => ?_
              refine wl (eL 128 49 1 (v := .int .i64 0) hF hM (by kernel_rfl) rfl rfl (by kernel_rfl) (by kernel_rfl) fun a w hF hM => ?_)
              refine sB 1 [(129, .pointer (some ⟨bb49, 2, none⟩))] hF (by kernel_rfl) fun a hF => ?_
              refine wl (eL 130 49 2 (v := .int .i64 0) hF hM (by kernel_rfl) rfl rfl (by kernel_rfl) (by kernel_rfl) fun a w hF hM => ?_)
              refine wl (eM 131 (v := .tuple #[.int .i64 0, .agg #[.int .i64 0, .int .i64 0], .int .i64 2]) hF hM (by kernel_rfl) ((yld_call (f := 20) (args := #[.agg #[.int .i64 131072, .int .i64 2], .agg #[.int .i64 0, .int .i64 0], .int .i64 0, .int .i64 0, .int .i64 0]) hF (by kernel_rfl) (fun _ => by kernel_rfl) (fun w hM => crStep_w 131072 2 0 0 0 0 0 w)).to (by kernel_rfl)) fun a w hF hM => ?_)
              refine sB 4 [(122, .tuple #[.int .i64 0, .agg #[.int .i64 0, .int .i64 0], .int .i64 2]), (132, .int .i64 0), (133, .agg #[.int .i64 0, .int .i64 0]), (134, .int .i64 2)] hF (by kernel_rfl) fun a hF => ?_
              refine wl (eN 18 50 (t := 40) (fun b => .pointer (some ⟨b, 0, none⟩)) #[.int .i64 0, .int .i64 0] hF hM (by kernel_rfl) (fun _ => by kernel_rfl) fun bb50 a w hF hM => ?_)
              refine sB 1 [(17, .int .i64 0)] hF (by kernel_rfl) fun a hF => ?_
              refine wl (sStore (i := 50) (off := 0) (cs' := #[.int .i64 0, .int .i64 0]) hF hM (by kernel_rfl) rfl rfl (by kernel_rfl) (by kernel_rfl) rfl (by kernel_rfl) fun w hM => ?_)
              refine sB 1 [(19, .int .i64 2)] hF (by kernel_rfl) fun a hF => ?_
              refine wpList_nil ?_
              refine hK127 _ _ ?_
              refine wp_seq_k fun K128 hK128 => ?_
              refine wp_region_lit ?_
              refine sB 1 [(135, .int .i64 2)] hF (by kernel_rfl) fun a hF => ?_
              refine wl (eP 136 (v0 := .bool (!decide (2 = 2))) (v := .bool false) hF (by kernel_rfl) (fun _ => by kernel_rfl) (nT (by omega)) fun a hF => ?_)
              refine wpList_nil ?_
              refine hK128 _ _ ?_
              refine cF hF (by kernel_rfl) (by kernel_rfl) ?_
              refine wp_skip ?_
              refine hK125 _ _ ?_
              refine wp_region_lit ?_
              refine wl (eP 137 (v0 := .int .i64 (IntKind.i64.wrap (4 + 1))) (v := .int .i64 5) hF (by kernel_rfl) (fun _ => by kernel_rfl) (vi (by decide)) fun a hF => ?_)
              refine sB 1 [(119, .int .i64 5)] hF (by kernel_rfl) fun a hF => ?_
              refine wpList_nil ?_
              refine hK122 _ _ ?_
              refine rounds_k fun K129 hK129 => ?_
              refine wp_seq_k fun K130 hK130 => ?_
              refine wp_region_lit ?_
              refine wl (eP 120 (v0 := .bool (decide (5 < 6))) (v := .bool true) hF (by kernel_rfl) (fun _ => by kernel_rfl) (bT (by omega)) fun a hF => ?_)
              refine wpList_nil ?_
              refine hK130 _ _ ?_
              refine wp_seq_k fun K131 hK131 => ?_
              refine cT hF (by kernel_rfl) (by kernel_rfl) ?_
              refine wp_skip ?_
              refine hK131 _ _ ?_
              refine wp_seq_k fun K132 hK132 => ?_
              refine wp_block ?_
              refine wp_seq_k fun K133 hK133 => ?_
              refine wp_region_lit ?_
              refine sB 1 [(121, .agg #[.int .i64 0, .int .i64 0, .int .i64 1543])] hF (by kernel_rfl) fun a hF => ?_
              refine wl (eN 16 51 (t := 47) (fun b => .pointer (some ⟨b, 0, none⟩)) #[.int .i64 0, .int .i64 0, .int .i64 0] hF hM (by kernel_rfl) (fun _ => by kernel_rfl) fun bb51 a w hF hM => ?_)
              refine wl (sStore (i := 51) (off := 0) (cs' := #[.int .i64 0, .int .i64 0, .int .i64 1543]) hF hM (by kernel_rfl) rfl rfl (by kernel_rfl) (by kernel_rfl) rfl (by kernel_rfl) fun w hM => ?_)
              refine wpList_nil ?_
              refine hK133 _ _ ?_
              refine wp_seq_k fun K134 hK134 => ?_
              refine wp_region_lit ?_
              refine wl (eL 123 2 0 (v := .agg #[.int .i64 131072, .int .i64 2]) hF hM (by kernel_rfl) rfl rfl (by kernel_rfl) (by kernel_rfl) fun a w hF hM => ?_)
              refine sB 2 [(124, .agg #[.int .i64 0, .int .i64 0]), (125, .pointer (some ⟨bb51, 0, none⟩))] hF (by kernel_rfl) fun a hF => ?_
              refine wl (eL 126 51 0 (v := .int .i64 0) hF hM (by kernel_rfl) rfl rfl (by kernel_rfl) (by kernel_rfl) fun a w hF hM => ?_)
              refine sB 1 [(127, .pointer (some ⟨bb51, 1, none⟩))] hF (by kernel_rfl) fun a hF => ?_
              refine wl (eL 128 51 1 (v := .int .i64 0) hF hM (by kernel_rfl) rfl rfl (by kernel_rfl) (by kernel_rfl) fun a w hF hM => ?_)
              refine sB 1 [(129, .pointer (some ⟨bb51, 2, none⟩))] hF (by kernel_rfl) fun a hF => ?_
              refine wl (eL 130 51 2 (v := .int .i64 1543) hF hM (by kernel_rfl) rfl rfl (by kernel_rfl) (by kernel_rfl) fun a w hF hM => ?_)
              refine wl (eM 131 (v := .tuple #[.int .i64 0, .agg #[.int .i64 0, .int .i64 0], .int .i64 2]) hF hM (by kernel_rfl) ((yld_call (f := 20) (args := #[.agg #[.int .i64 131072, .int .i64 2], .agg #[.int .i64 0, .int .i64 0], .int .i64 0, .int .i64 0, .int .i64 1543]) hF (by kernel_rfl) (fun _ => by kernel_rfl) (fun w hM => crStep_w 131072 2 0 0 0 0 1543 w)).to (by kernel_rfl)) fun a w hF hM => ?_)
              refine sB 4 [(122, .tuple #[.int .i64 0, .agg #[.int .i64 0, .int .i64 0], .int .i64 2]), (132, .int .i64 0), (133, .agg #[.int .i64 0, .int .i64 0]), (134, .int .i64 2)] hF (by kernel_rfl) fun a hF => ?_
              refine wl (eN 18 52 (t := 40) (fun b => .pointer (some ⟨b, 0, none⟩)) #[.int .i64 0, .int .i64 0] hF hM (by kernel_rfl) (fun _ => by kernel_rfl) fun bb52 a w hF hM => ?_)
              refine sB 1 [(17, .int .i64 0)] hF (by kernel_rfl) fun a hF => ?_
              refine wl (sStore (i := 52) (off := 0) (cs' := #[.int .i64 0, .int .i64 0]) hF hM (by kernel_rfl) rfl rfl (by kernel_rfl) (by kernel_rfl) rfl (by kernel_rfl) fun w hM => ?_)
              refine sB 1 [(19, .int .i64 2)] hF (by kernel_rfl) fun a hF => ?_
              refine wpList_nil ?_
              refine hK134 _ _ ?_
              refine wp_seq_k fun K135 hK135 => ?_
              refine wp_region_lit ?_
              refine sB 1 [(135, .int .i64 2)] hF (by kernel_rfl) fun a hF => ?_
              refine wl (eP 136 (v0 := .bool (!decide (2 = 2))) (v := .bool false) hF (by kernel_rfl) (fun _ => by kernel_rfl) (nT (by omega)) fun a hF => ?_)
              refine wpList_nil ?_
              refine hK135 _ _ ?_
              refine cF hF (by kernel_rfl) (by kernel_rfl) ?_
              refine wp_skip ?_
              refine hK132 _ _ ?_
              refine wp_region_lit ?_
              refine wl (eP 137 (v0 := .int .i64 (IntKind.i64.wrap (5 + 1))) (v := .int .i64 6) hF (by kernel_rfl) (fun _ => by kernel_rfl) (vi (by decide)) fun a hF => ?_)
              refine sB 1 [(119, .int .i64 6)] hF (by kernel_rfl) fun a hF => ?_
              refine wpList_nil ?_
              refine hK129 _ _ ?_
              refine rounds_k fun K136 hK136 => ?_
              refine wp_seq_k fun K137 hK137 => ?_
              refine wp_region_lit ?_
              refine wl (eP 120 (v0 := .bool (decide (6 < 6))) (v := .bool false) hF (by kernel_rfl) (fun _ => by kernel_rfl) (bF (by omega)) fun a hF => ?_)
              refine wpList_nil ?_
              refine hK137 _ _ ?_
              refine wp_seq_k fun K138 hK138 => ?_
              refine cF hF (by kernel_rfl) (by kernel_rfl) ?_
              refine wp_exit ?_
              refine hK92 _ _ ?_
              refine wp_seq_k fun K139 hK139 => ?_
              refine wp_region_lit ?_
              refine wl (eL 139 2 0 (v := .agg #[.int .i64 131072, .int .i64 2]) hF hM (by kernel_rfl) rfl rfl (by kernel_rfl) (by kernel_rfl) fun a w hF hM => ?_)
              refine sB 1 [(140, .agg #[.int .i64 0, .int .i64 0])] hF (by kernel_rfl) fun a hF => ?_
              refine wl (eM 141 (v := .tuple #[.int .i64 0, .agg #[.int .i64 0, .int .i64 0], .int .i64 6]) hF hM (by kernel_rfl) ((yld_call (f := 20) (args := #[.agg #[.int .i64 131072, .int .i64 2], .agg #[.int .i64 0, .int .i64 0], .int .i64 1073741824, .int .i64 0, .int .i64 1]) hF (by kernel_rfl) (fun _ => by kernel_rfl) (fun w hM => crStep_w 131072 2 0 0 1073741824 0 1 w)).to (by kernel_rfl)) fun a w hF hM => ?_)
              refine sB 4 [(138, .tuple #[.int .i64 0, .agg #[.int .i64 0, .int .i64 0], .int .i64 6]), (142, .int .i64 0), (143, .agg #[.int .i64 0, .int .i64 0]), (144, .int .i64 6)] hF (by kernel_rfl) fun a hF => ?_
              refine wl (eN 21 53 (t := 40) (fun b => .pointer (some ⟨b, 0, none⟩)) #[.int .i64 0, .int .i64 0] hF hM (by kernel_rfl) (fun _ => by kernel_rfl) fun bb53 a w hF hM => ?_)
              refine sB 1 [(20, .int .i64 0)] hF (by kernel_rfl) fun a hF => ?_
              refine wl (sStore (i := 53) (off := 0) (cs' := #[.int .i64 0, .int .i64 0]) hF hM (by kernel_rfl) rfl rfl (by kernel_rfl) (by kernel_rfl) rfl (by kernel_rfl) fun w hM => ?_)
              refine sB 1 [(22, .int .i64 6)] hF (by kernel_rfl) fun a hF => ?_
              refine wpList_nil ?_
              refine hK139 _ _ ?_
              refine wp_seq_k fun K140 hK140 => ?_
              refine wp_region_lit ?_
              refine sB 2 [(146, .agg #[.int .i64 1, .int .i64 1]), (147, .agg #[.int .i64 0, .int .i64 (-1616904192)])] hF (by kernel_rfl) fun a hF => ?_
              refine wl (eM 148 (v := .tuple #[.int .i64 0, .agg #[.int .i64 0, .int .i64 0], .int .i64 6]) hF hM (by kernel_rfl) ((yld_call (f := 20) (args := #[.agg #[.int .i64 1, .int .i64 1], .agg #[.int .i64 0, .int .i64 (-1616904192)], .int .i64 0, .int .i64 0, .int .i64 1]) hF (by kernel_rfl) (fun _ => by kernel_rfl) (fun w hM => crStep_w 1 1 0 (-1616904192) 0 0 1 w)).to (by kernel_rfl)) fun a w hF hM => ?_)
              refine sB 4 [(145, .tuple #[.int .i64 0, .agg #[.int .i64 0, .int .i64 0], .int .i64 6]), (149, .int .i64 0), (150, .agg #[.int .i64 0, .int .i64 0]), (151, .int .i64 6)] hF (by kernel_rfl) fun a hF => ?_
              refine wl (eN 24 54 (t := 40) (fun b => .pointer (some ⟨b, 0, none⟩)) #[.int .i64 0, .int .i64 0] hF hM (by kernel_rfl) (fun _ => by kernel_rfl) fun bb54 a w hF hM => ?_)
              refine sB 1 [(23, .int .i64 0)] hF (by kernel_rfl) fun a hF => ?_
              refine wl (sStore (i := 54) (off := 0) (cs' := #[.int .i64 0, .int .i64 0]) hF hM (by kernel_rfl) rfl rfl (by kernel_rfl) (by kernel_rfl) rfl (by kernel_rfl) fun w hM => ?_)
              refine sB 1 [(25, .int .i64 6)] hF (by kernel_rfl) fun a hF => ?_
              refine wpList_nil ?_
              refine hK140 _ _ ?_
              refine wp_seq_k fun K141 hK141 => ?_
              refine rF (by kernel_rfl) (by kernel_rfl) (fun S a w => ∃ bb55 : Nat, ∃ AA56 : Option Addr, ∃ cc56 : Nat, ∃ bb57 : Nat, ∃ bb58 : Nat, Fr 283 [(0, some (.bool false)), (1, some (.pointer (some ⟨bb2, 0, none⟩))), (22, some (.int .i64 6)), (25, some (.int .i64 6)), (26, (cond (S.getD 10 false) (some (.slice none 0 0)) none)), (27, (cond (S.getD 9 false) (some (.pointer (some ⟨bb58, 0, none⟩))) none)), (28, (cond (S.getD 12 false) (some (.int .i64 131)) none)), (152, (cond (S.getD 5 false) (some (.tuple #[.slice none 0 0, .agg #[.int .i64 0, .int .i64 0], .int .i64 131])) none)), (153, (cond (S.getD 0 false) (some (.agg #[.int .i64 131072, .int .i64 2])) none)), (154, (cond (S.getD 1 false) (some (.slice (some ⟨bb55, 0, none⟩) 2 2)) none)), (155, (cond (S.getD 2 false) (some (.slice AA56 1 cc56)) none)), (156, (cond (S.getD 3 false) (some (.slice (some ⟨bb57, 0, none⟩) 2 2)) none)), (157, (cond (S.getD 4 false) (some (.tuple #[.slice none 0 0, .agg #[.int .i64 0, .int .i64 0], .int .i64 131])) none)), (158, (cond (S.getD 6 false) (some (.slice none 0 0)) none)), (159, (cond (S.getD 7 false) (some (.agg #[.int .i64 0, .int .i64 0])) none)), (160, (cond (S.getD 8 false) (some (.int .i64 131)) none))] a ∧ Mem w0.heap.size w0 [(2, some (.row bb2 23 #[.int .i64 131072, .int .i64 2])), (55, (cond (S.getD 1 false) (some (.row bb55 3 #[.int .i64 5, .int .i64 0])) none)), (56, (cond (S.getD 2 false) (some (.own (.slice AA56 1 cc56) 57 2 1 (flat2 ([(5, 0)])))) none)), (57, (cond (S.getD 3 false) (some (.row bb57 3 #[.int .i64 (-1), .int .i64 (-1)])) none)), (58, (cond (S.getD 11 false) (some (.row bb58 40 #[.int .i64 0, .int .i64 0])) (cond (S.getD 9 false) (some (.row bb58 40 #[.int .i64 0, .int .i64 0])) none)))] w) ?_ ?_ ?_
              · exact ⟨0, none, 0, 0, 0, (((((((((((((((((Fr.nil hF).co hF (i := 160) (by kernel_rfl)).co hF (i := 159) (by kernel_rfl)).co hF (i := 158) (by kernel_rfl)).co hF (i := 157) (by kernel_rfl)).co hF (i := 156) (by kernel_rfl)).co hF (i := 155) (by kernel_rfl)).co hF (i := 154) (by kernel_rfl)).co hF (i := 153) (by kernel_rfl)).co hF (i := 152) (by kernel_rfl)).co hF (i := 28) (by kernel_rfl)).co hF (i := 27) (by kernel_rfl)).co hF (i := 26) (by kernel_rfl)).co hF (i := 25) (by kernel_rfl)).co hF (i := 22) (by kernel_rfl)).co hF (i := 1) (by kernel_rfl)).co hF (i := 0) (by kernel_rfl)), hM.drew.sub (((((Sub.nil.co (k := 58) (by kernel_rfl)).co (k := 57) (by kernel_rfl)).co (k := 56) (by kernel_rfl)).co (k := 55) (by kernel_rfl)).co (k := 2) (by kernel_rfl))⟩
              · refine stC ?_ (stC ?_ (stC ?_ (stC ?_ (stC ?_ (stC ?_ (stC ?_ (stC ?_ (stC ?_ (stC ?_ (stC ?_ (stC ?_ (stC ?_ (trivial)))))))))))))
                · intro s0 s1 s2 s3 s4 s5 s6 s7 s8 s9 s10 s11 s12 hc hi hp a w hS
                  obtain rfl : s0 = false := hi
                  obtain ⟨bb55, AA56, cc56, bb57, bb58, hF, hM⟩ := hS
                  refine eL 153 2 0 (v := .agg #[.int .i64 131072, .int .i64 2]) hF hM (by kernel_rfl) rfl rfl (by kernel_rfl) (by kernel_rfl) fun a w hF hM => ?_
                  exact ⟨bb55, AA56, cc56, bb57, bb58, ((hF.repl 8 (by kernel_rfl)).cast (by kernel_rfl)), (hM.cast (by kernel_rfl))⟩
                · intro s0 s1 s2 s3 s4 s5 s6 s7 s8 s9 s10 s11 s12 hc hi hp a w hS
                  obtain rfl : s1 = false := hi
                  obtain ⟨bb55, AA56, cc56, bb57, bb58, hF, hM⟩ := hS
                  refine eN 154 55 (t := 3) (fun b => .slice (some ⟨b, 0, none⟩) 2 2) #[.int .i64 5, .int .i64 0] hF hM (by kernel_rfl) (fun _ => by kernel_rfl) fun bb55 a w hF hM => ?_
                  exact ⟨bb55, AA56, cc56, bb57, bb58, ((hF.repl 9 (by kernel_rfl)).cast (by kernel_rfl)), ((hM.repl 1 (by kernel_rfl)).cast (by kernel_rfl))⟩
                · intro s0 s1 s2 s3 s4 s5 s6 s7 s8 s9 s10 s11 s12 hc hi hp a w hS
                  obtain rfl : s2 = false := hi
                  obtain rfl : s1 = true := hp 1 (by kernel_rfl)
                  obtain ⟨bb55, AA56, cc56, bb57, bb58, hF, hM⟩ := hS
                  refine sOwn 56 (f := 23) (args := #[.slice (some ⟨bb55, 0, none⟩) 2 2]) (mk := fun v => v) (e := 57) (size := 2) (m := 1) (xs := (flat2 ([(5, 0)]))) hF hM (by kernel_rfl) rfl (by decide) (by kernel_rfl) (fun _ => by kernel_rfl) (trace_w (some ⟨bb55, 0, none⟩) [5, 0] 2 w (hM.roRow (k := 55) rfl) (by decide)) fun AA56 cc56 a w hF hM => ?_
                  exact ⟨bb55, AA56, cc56, bb57, bb58, ((hF.repl 10 (by kernel_rfl)).cast (by kernel_rfl)), ((hM.repl 2 (by kernel_rfl)).cast (by kernel_rfl))⟩
                · intro s0 s1 s2 s3 s4 s5 s6 s7 s8 s9 s10 s11 s12 hc hi hp a w hS
                  obtain rfl : s3 = false := hi
                  obtain ⟨bb55, AA56, cc56, bb57, bb58, hF, hM⟩ := hS
                  refine eN 156 57 (t := 3) (fun b => .slice (some ⟨b, 0, none⟩) 2 2) #[.int .i64 (-1), .int .i64 (-1)] hF hM (by kernel_rfl) (fun _ => by kernel_rfl) fun bb57 a w hF hM => ?_
                  exact ⟨bb55, AA56, cc56, bb57, bb58, ((hF.repl 11 (by kernel_rfl)).cast (by kernel_rfl)), ((hM.repl 3 (by kernel_rfl)).cast (by kernel_rfl))⟩
                · intro s0 s1 s2 s3 s4 s5 s6 s7 s8 s9 s10 s11 s12 hc hi hp a w hS
                  obtain rfl : s4 = false := hi
                  obtain rfl : s3 = true := hp 3 (by kernel_rfl)
                  obtain rfl : s2 = true := hp 2 (by kernel_rfl)
                  obtain rfl : s0 = true := hp 0 (by kernel_rfl)
                  obtain ⟨bb55, AA56, cc56, bb57, bb58, hF, hM⟩ := hS
                  refine eM 157 (v := .tuple #[.slice none 0 0, .agg #[.int .i64 0, .int .i64 0], .int .i64 131]) hF hM (by kernel_rfl) (yld_call (f := 12) (args := #[.agg #[.int .i64 131072, .int .i64 2], .slice AA56 1 cc56, .slice (some ⟨bb57, 0, none⟩) 2 2]) hF (by kernel_rfl) (fun _ => by kernel_rfl) (fun w hM => crRun_err (by decide : runS 131072 2 ([(5, 0)]) [-1, -1] = (131, [], 0, 0)) (crRun_w 131072 2 AA56 ([(5, 0)]) cc56 (some ⟨bb57, 0, none⟩) [-1, -1] 2 w (ro_of_own (hM.ok 56 _ rfl)) (hM.roRow (k := 57) rfl) (by decide) (by decide)))) fun a w hF hM => ?_
                  exact ⟨bb55, AA56, cc56, bb57, bb58, ((hF.repl 12 (by kernel_rfl)).cast (by kernel_rfl)), (hM.cast (by kernel_rfl))⟩
                · intro s0 s1 s2 s3 s4 s5 s6 s7 s8 s9 s10 s11 s12 hc hi hp a w hS
                  obtain rfl : s5 = false := hi
                  obtain rfl : s4 = true := hp 4 (by kernel_rfl)
                  obtain ⟨bb55, AA56, cc56, bb57, bb58, hF, hM⟩ := hS
                  refine eP 152 (v0 := .tuple #[.slice none 0 0, .agg #[.int .i64 0, .int .i64 0], .int .i64 131]) (v := .tuple #[.slice none 0 0, .agg #[.int .i64 0, .int .i64 0], .int .i64 131]) hF (by kernel_rfl) (fun _ => by kernel_rfl) rfl fun a hF => ?_
                  exact ⟨bb55, AA56, cc56, bb57, bb58, ((hF.repl 7 (by kernel_rfl)).cast (by kernel_rfl)), (hM.cast (by kernel_rfl))⟩
                · intro s0 s1 s2 s3 s4 s5 s6 s7 s8 s9 s10 s11 s12 hc hi hp a w hS
                  obtain rfl : s6 = false := hi
                  obtain rfl : s5 = true := hp 5 (by kernel_rfl)
                  obtain ⟨bb55, AA56, cc56, bb57, bb58, hF, hM⟩ := hS
                  refine eP 158 (v0 := .slice none 0 0) (v := .slice none 0 0) hF (by kernel_rfl) (fun _ => by kernel_rfl) rfl fun a hF => ?_
                  exact ⟨bb55, AA56, cc56, bb57, bb58, ((hF.repl 13 (by kernel_rfl)).cast (by kernel_rfl)), (hM.cast (by kernel_rfl))⟩
                · intro s0 s1 s2 s3 s4 s5 s6 s7 s8 s9 s10 s11 s12 hc hi hp a w hS
                  obtain rfl : s7 = false := hi
                  obtain rfl : s5 = true := hp 5 (by kernel_rfl)
                  obtain ⟨bb55, AA56, cc56, bb57, bb58, hF, hM⟩ := hS
                  refine eP 159 (v0 := .agg #[.int .i64 0, .int .i64 0]) (v := .agg #[.int .i64 0, .int .i64 0]) hF (by kernel_rfl) (fun _ => by kernel_rfl) rfl fun a hF => ?_
                  exact ⟨bb55, AA56, cc56, bb57, bb58, ((hF.repl 14 (by kernel_rfl)).cast (by kernel_rfl)), (hM.cast (by kernel_rfl))⟩
                · intro s0 s1 s2 s3 s4 s5 s6 s7 s8 s9 s10 s11 s12 hc hi hp a w hS
                  obtain rfl : s8 = false := hi
                  obtain rfl : s5 = true := hp 5 (by kernel_rfl)
                  obtain ⟨bb55, AA56, cc56, bb57, bb58, hF, hM⟩ := hS
                  refine eP 160 (v0 := .int .i64 131) (v := .int .i64 131) hF (by kernel_rfl) (fun _ => by kernel_rfl) rfl fun a hF => ?_
                  exact ⟨bb55, AA56, cc56, bb57, bb58, ((hF.repl 15 (by kernel_rfl)).cast (by kernel_rfl)), (hM.cast (by kernel_rfl))⟩
                · intro s0 s1 s2 s3 s4 s5 s6 s7 s8 s9 s10 s11 s12 hc hi hp a w hS
                  obtain rfl : s9 = false := hi
                  obtain rfl : s11 = false := hc.f 11 9 (by kernel_rfl) rfl
                  obtain ⟨bb55, AA56, cc56, bb57, bb58, hF, hM⟩ := hS
                  refine eN 27 58 (t := 40) (fun b => .pointer (some ⟨b, 0, none⟩)) #[.int .i64 0, .int .i64 0] hF hM (by kernel_rfl) (fun _ => by kernel_rfl) fun bb58 a w hF hM => ?_
                  exact ⟨bb55, AA56, cc56, bb57, bb58, ((hF.repl 5 (by kernel_rfl)).cast (by kernel_rfl)), ((hM.repl 4 (by kernel_rfl)).cast (by kernel_rfl))⟩
                · intro s0 s1 s2 s3 s4 s5 s6 s7 s8 s9 s10 s11 s12 hc hi hp a w hS
                  obtain rfl : s10 = false := hi
                  obtain rfl : s6 = true := hp 6 (by kernel_rfl)
                  obtain ⟨bb55, AA56, cc56, bb57, bb58, hF, hM⟩ := hS
                  refine eP 26 (v0 := .slice none 0 0) (v := .slice none 0 0) hF (by kernel_rfl) (fun _ => by kernel_rfl) rfl fun a hF => ?_
                  exact ⟨bb55, AA56, cc56, bb57, bb58, ((hF.repl 4 (by kernel_rfl)).cast (by kernel_rfl)), (hM.cast (by kernel_rfl))⟩
                · intro s0 s1 s2 s3 s4 s5 s6 s7 s8 s9 s10 s11 s12 hc hi hp a w hS
                  obtain rfl : s11 = false := hi
                  obtain rfl : s9 = true := hp 9 (by kernel_rfl)
                  obtain rfl : s7 = true := hp 7 (by kernel_rfl)
                  obtain ⟨bb55, AA56, cc56, bb57, bb58, hF, hM⟩ := hS
                  refine sStore (i := 58) (off := 0) (cs' := #[.int .i64 0, .int .i64 0]) hF hM (by kernel_rfl) rfl rfl (by kernel_rfl) (by kernel_rfl) rfl (by kernel_rfl) fun w hM => ?_
                  exact ⟨bb55, AA56, cc56, bb57, bb58, (hF.cast (by kernel_rfl)), ((hM.repl 4 (by kernel_rfl)).cast (by kernel_rfl))⟩
                · intro s0 s1 s2 s3 s4 s5 s6 s7 s8 s9 s10 s11 s12 hc hi hp a w hS
                  obtain rfl : s12 = false := hi
                  obtain rfl : s8 = true := hp 8 (by kernel_rfl)
                  obtain ⟨bb55, AA56, cc56, bb57, bb58, hF, hM⟩ := hS
                  refine eP 28 (v0 := .int .i64 131) (v := .int .i64 131) hF (by kernel_rfl) (fun _ => by kernel_rfl) rfl fun a hF => ?_
                  exact ⟨bb55, AA56, cc56, bb57, bb58, ((hF.repl 6 (by kernel_rfl)).cast (by kernel_rfl)), (hM.cast (by kernel_rfl))⟩
              · intro a w hS
                obtain ⟨bb55, AA56, cc56, bb57, bb58, hF, hM⟩ := hS
                replace hF : Fr 283 [(0, some (.bool false)), (1, some (.pointer (some ⟨bb2, 0, none⟩))), (22, some (.int .i64 6)), (25, some (.int .i64 6)), (26, some (.slice none 0 0)), (27, some (.pointer (some ⟨bb58, 0, none⟩))), (28, some (.int .i64 131)), (152, some (.tuple #[.slice none 0 0, .agg #[.int .i64 0, .int .i64 0], .int .i64 131])), (153, some (.agg #[.int .i64 131072, .int .i64 2])), (154, some (.slice (some ⟨bb55, 0, none⟩) 2 2)), (155, some (.slice AA56 1 cc56)), (156, some (.slice (some ⟨bb57, 0, none⟩) 2 2)), (157, some (.tuple #[.slice none 0 0, .agg #[.int .i64 0, .int .i64 0], .int .i64 131])), (158, some (.slice none 0 0)), (159, some (.agg #[.int .i64 0, .int .i64 0])), (160, some (.int .i64 131))] a := hF.cast (by kernel_rfl)
                replace hM : Mem w0.heap.size w0 [(2, some (.row bb2 23 #[.int .i64 131072, .int .i64 2])), (55, some (.row bb55 3 #[.int .i64 5, .int .i64 0])), (56, some (.own (.slice AA56 1 cc56) 57 2 1 (flat2 ([(5, 0)])))), (57, some (.row bb57 3 #[.int .i64 (-1), .int .i64 (-1)])), (58, some (.row bb58 40 #[.int .i64 0, .int .i64 0]))] w := hM.cast (by kernel_rfl)
                refine hK141 _ _ ?_
                refine wp_seq_k fun K142 hK142 => ?_
                refine rF (by kernel_rfl) (by kernel_rfl) (fun S a w => ∃ bb59 : Nat, ∃ AA60 : Option Addr, ∃ cc60 : Nat, ∃ bb61 : Nat, ∃ bb62 : Nat, Fr 283 [(0, some (.bool false)), (1, some (.pointer (some ⟨bb2, 0, none⟩))), (22, some (.int .i64 6)), (25, some (.int .i64 6)), (28, some (.int .i64 131)), (29, (cond (S.getD 10 false) (some (.slice none 0 0)) none)), (30, (cond (S.getD 9 false) (some (.pointer (some ⟨bb62, 0, none⟩))) none)), (31, (cond (S.getD 12 false) (some (.int .i64 3)) none)), (161, (cond (S.getD 5 false) (some (.tuple #[.slice none 0 0, .agg #[.int .i64 0, .int .i64 0], .int .i64 3])) none)), (162, (cond (S.getD 0 false) (some (.agg #[.int .i64 131072, .int .i64 2])) none)), (163, (cond (S.getD 1 false) (some (.slice (some ⟨bb59, 0, none⟩) 2 2)) none)), (164, (cond (S.getD 2 false) (some (.slice AA60 1 cc60)) none)), (165, (cond (S.getD 3 false) (some (.slice (some ⟨bb61, 0, none⟩) 2 2)) none)), (166, (cond (S.getD 4 false) (some (.tuple #[.slice none 0 0, .agg #[.int .i64 0, .int .i64 0], .int .i64 3])) none)), (167, (cond (S.getD 6 false) (some (.slice none 0 0)) none)), (168, (cond (S.getD 7 false) (some (.agg #[.int .i64 0, .int .i64 0])) none)), (169, (cond (S.getD 8 false) (some (.int .i64 3)) none))] a ∧ Mem w0.heap.size w0 [(2, some (.row bb2 23 #[.int .i64 131072, .int .i64 2])), (59, (cond (S.getD 1 false) (some (.row bb59 3 #[.int .i64 5, .int .i64 1543])) none)), (60, (cond (S.getD 2 false) (some (.own (.slice AA60 1 cc60) 57 2 1 (flat2 ([(5, 1543)])))) none)), (61, (cond (S.getD 3 false) (some (.row bb61 3 #[.int .i64 0, .int .i64 0])) none)), (62, (cond (S.getD 11 false) (some (.row bb62 40 #[.int .i64 0, .int .i64 0])) (cond (S.getD 9 false) (some (.row bb62 40 #[.int .i64 0, .int .i64 0])) none)))] w) ?_ ?_ ?_
                · exact ⟨0, none, 0, 0, 0, ((((((((((((((((((Fr.nil hF).co hF (i := 169) (by kernel_rfl)).co hF (i := 168) (by kernel_rfl)).co hF (i := 167) (by kernel_rfl)).co hF (i := 166) (by kernel_rfl)).co hF (i := 165) (by kernel_rfl)).co hF (i := 164) (by kernel_rfl)).co hF (i := 163) (by kernel_rfl)).co hF (i := 162) (by kernel_rfl)).co hF (i := 161) (by kernel_rfl)).co hF (i := 31) (by kernel_rfl)).co hF (i := 30) (by kernel_rfl)).co hF (i := 29) (by kernel_rfl)).co hF (i := 28) (by kernel_rfl)).co hF (i := 25) (by kernel_rfl)).co hF (i := 22) (by kernel_rfl)).co hF (i := 1) (by kernel_rfl)).co hF (i := 0) (by kernel_rfl)), hM.drew.sub (((((Sub.nil.co (k := 62) (by kernel_rfl)).co (k := 61) (by kernel_rfl)).co (k := 60) (by kernel_rfl)).co (k := 59) (by kernel_rfl)).co (k := 2) (by kernel_rfl))⟩
                · refine stC ?_ (stC ?_ (stC ?_ (stC ?_ (stC ?_ (stC ?_ (stC ?_ (stC ?_ (stC ?_ (stC ?_ (stC ?_ (stC ?_ (stC ?_ (trivial)))))))))))))
                  · intro s0 s1 s2 s3 s4 s5 s6 s7 s8 s9 s10 s11 s12 hc hi hp a w hS
                    obtain rfl : s0 = false := hi
                    obtain ⟨bb59, AA60, cc60, bb61, bb62, hF, hM⟩ := hS
                    refine eL 162 2 0 (v := .agg #[.int .i64 131072, .int .i64 2]) hF hM (by kernel_rfl) rfl rfl (by kernel_rfl) (by kernel_rfl) fun a w hF hM => ?_
                    exact ⟨bb59, AA60, cc60, bb61, bb62, ((hF.repl 9 (by kernel_rfl)).cast (by kernel_rfl)), (hM.cast (by kernel_rfl))⟩
                  · intro s0 s1 s2 s3 s4 s5 s6 s7 s8 s9 s10 s11 s12 hc hi hp a w hS
                    obtain rfl : s1 = false := hi
                    obtain ⟨bb59, AA60, cc60, bb61, bb62, hF, hM⟩ := hS
                    refine eN 163 59 (t := 3) (fun b => .slice (some ⟨b, 0, none⟩) 2 2) #[.int .i64 5, .int .i64 1543] hF hM (by kernel_rfl) (fun _ => by kernel_rfl) fun bb59 a w hF hM => ?_
                    exact ⟨bb59, AA60, cc60, bb61, bb62, ((hF.repl 10 (by kernel_rfl)).cast (by kernel_rfl)), ((hM.repl 1 (by kernel_rfl)).cast (by kernel_rfl))⟩
                  · intro s0 s1 s2 s3 s4 s5 s6 s7 s8 s9 s10 s11 s12 hc hi hp a w hS
                    obtain rfl : s2 = false := hi
                    obtain rfl : s1 = true := hp 1 (by kernel_rfl)
                    obtain ⟨bb59, AA60, cc60, bb61, bb62, hF, hM⟩ := hS
                    refine sOwn 60 (f := 23) (args := #[.slice (some ⟨bb59, 0, none⟩) 2 2]) (mk := fun v => v) (e := 57) (size := 2) (m := 1) (xs := (flat2 ([(5, 1543)]))) hF hM (by kernel_rfl) rfl (by decide) (by kernel_rfl) (fun _ => by kernel_rfl) (trace_w (some ⟨bb59, 0, none⟩) [5, 1543] 2 w (hM.roRow (k := 59) rfl) (by decide)) fun AA60 cc60 a w hF hM => ?_
                    exact ⟨bb59, AA60, cc60, bb61, bb62, ((hF.repl 11 (by kernel_rfl)).cast (by kernel_rfl)), ((hM.repl 2 (by kernel_rfl)).cast (by kernel_rfl))⟩
                  · intro s0 s1 s2 s3 s4 s5 s6 s7 s8 s9 s10 s11 s12 hc hi hp a w hS
                    obtain rfl : s3 = false := hi
                    obtain ⟨bb59, AA60, cc60, bb61, bb62, hF, hM⟩ := hS
                    refine eN 165 61 (t := 3) (fun b => .slice (some ⟨b, 0, none⟩) 2 2) #[.int .i64 0, .int .i64 0] hF hM (by kernel_rfl) (fun _ => by kernel_rfl) fun bb61 a w hF hM => ?_
                    exact ⟨bb59, AA60, cc60, bb61, bb62, ((hF.repl 12 (by kernel_rfl)).cast (by kernel_rfl)), ((hM.repl 3 (by kernel_rfl)).cast (by kernel_rfl))⟩
                  · intro s0 s1 s2 s3 s4 s5 s6 s7 s8 s9 s10 s11 s12 hc hi hp a w hS
                    obtain rfl : s4 = false := hi
                    obtain rfl : s3 = true := hp 3 (by kernel_rfl)
                    obtain rfl : s2 = true := hp 2 (by kernel_rfl)
                    obtain rfl : s0 = true := hp 0 (by kernel_rfl)
                    obtain ⟨bb59, AA60, cc60, bb61, bb62, hF, hM⟩ := hS
                    refine eM 166 (v := .tuple #[.slice none 0 0, .agg #[.int .i64 0, .int .i64 0], .int .i64 3]) hF hM (by kernel_rfl) (yld_call (f := 12) (args := #[.agg #[.int .i64 131072, .int .i64 2], .slice AA60 1 cc60, .slice (some ⟨bb61, 0, none⟩) 2 2]) hF (by kernel_rfl) (fun _ => by kernel_rfl) (fun w hM => crRun_err (by decide : runS 131072 2 ([(5, 1543)]) [0, 0] = (3, [], 0, 0)) (crRun_w 131072 2 AA60 ([(5, 1543)]) cc60 (some ⟨bb61, 0, none⟩) [0, 0] 2 w (ro_of_own (hM.ok 60 _ rfl)) (hM.roRow (k := 61) rfl) (by decide) (by decide)))) fun a w hF hM => ?_
                    exact ⟨bb59, AA60, cc60, bb61, bb62, ((hF.repl 13 (by kernel_rfl)).cast (by kernel_rfl)), (hM.cast (by kernel_rfl))⟩
                  · intro s0 s1 s2 s3 s4 s5 s6 s7 s8 s9 s10 s11 s12 hc hi hp a w hS
                    obtain rfl : s5 = false := hi
                    obtain rfl : s4 = true := hp 4 (by kernel_rfl)
                    obtain ⟨bb59, AA60, cc60, bb61, bb62, hF, hM⟩ := hS
                    refine eP 161 (v0 := .tuple #[.slice none 0 0, .agg #[.int .i64 0, .int .i64 0], .int .i64 3]) (v := .tuple #[.slice none 0 0, .agg #[.int .i64 0, .int .i64 0], .int .i64 3]) hF (by kernel_rfl) (fun _ => by kernel_rfl) rfl fun a hF => ?_
                    exact ⟨bb59, AA60, cc60, bb61, bb62, ((hF.repl 8 (by kernel_rfl)).cast (by kernel_rfl)), (hM.cast (by kernel_rfl))⟩
                  · intro s0 s1 s2 s3 s4 s5 s6 s7 s8 s9 s10 s11 s12 hc hi hp a w hS
                    obtain rfl : s6 = false := hi
                    obtain rfl : s5 = true := hp 5 (by kernel_rfl)
                    obtain ⟨bb59, AA60, cc60, bb61, bb62, hF, hM⟩ := hS
                    refine eP 167 (v0 := .slice none 0 0) (v := .slice none 0 0) hF (by kernel_rfl) (fun _ => by kernel_rfl) rfl fun a hF => ?_
                    exact ⟨bb59, AA60, cc60, bb61, bb62, ((hF.repl 14 (by kernel_rfl)).cast (by kernel_rfl)), (hM.cast (by kernel_rfl))⟩
                  · intro s0 s1 s2 s3 s4 s5 s6 s7 s8 s9 s10 s11 s12 hc hi hp a w hS
                    obtain rfl : s7 = false := hi
                    obtain rfl : s5 = true := hp 5 (by kernel_rfl)
                    obtain ⟨bb59, AA60, cc60, bb61, bb62, hF, hM⟩ := hS
                    refine eP 168 (v0 := .agg #[.int .i64 0, .int .i64 0]) (v := .agg #[.int .i64 0, .int .i64 0]) hF (by kernel_rfl) (fun _ => by kernel_rfl) rfl fun a hF => ?_
                    exact ⟨bb59, AA60, cc60, bb61, bb62, ((hF.repl 15 (by kernel_rfl)).cast (by kernel_rfl)), (hM.cast (by kernel_rfl))⟩
                  · intro s0 s1 s2 s3 s4 s5 s6 s7 s8 s9 s10 s11 s12 hc hi hp a w hS
                    obtain rfl : s8 = false := hi
                    obtain rfl : s5 = true := hp 5 (by kernel_rfl)
                    obtain ⟨bb59, AA60, cc60, bb61, bb62, hF, hM⟩ := hS
                    refine eP 169 (v0 := .int .i64 3) (v := .int .i64 3) hF (by kernel_rfl) (fun _ => by kernel_rfl) rfl fun a hF => ?_
                    exact ⟨bb59, AA60, cc60, bb61, bb62, ((hF.repl 16 (by kernel_rfl)).cast (by kernel_rfl)), (hM.cast (by kernel_rfl))⟩
                  · intro s0 s1 s2 s3 s4 s5 s6 s7 s8 s9 s10 s11 s12 hc hi hp a w hS
                    obtain rfl : s9 = false := hi
                    obtain rfl : s11 = false := hc.f 11 9 (by kernel_rfl) rfl
                    obtain ⟨bb59, AA60, cc60, bb61, bb62, hF, hM⟩ := hS
                    refine eN 30 62 (t := 40) (fun b => .pointer (some ⟨b, 0, none⟩)) #[.int .i64 0, .int .i64 0] hF hM (by kernel_rfl) (fun _ => by kernel_rfl) fun bb62 a w hF hM => ?_
                    exact ⟨bb59, AA60, cc60, bb61, bb62, ((hF.repl 6 (by kernel_rfl)).cast (by kernel_rfl)), ((hM.repl 4 (by kernel_rfl)).cast (by kernel_rfl))⟩
                  · intro s0 s1 s2 s3 s4 s5 s6 s7 s8 s9 s10 s11 s12 hc hi hp a w hS
                    obtain rfl : s10 = false := hi
                    obtain rfl : s6 = true := hp 6 (by kernel_rfl)
                    obtain ⟨bb59, AA60, cc60, bb61, bb62, hF, hM⟩ := hS
                    refine eP 29 (v0 := .slice none 0 0) (v := .slice none 0 0) hF (by kernel_rfl) (fun _ => by kernel_rfl) rfl fun a hF => ?_
                    exact ⟨bb59, AA60, cc60, bb61, bb62, ((hF.repl 5 (by kernel_rfl)).cast (by kernel_rfl)), (hM.cast (by kernel_rfl))⟩
                  · intro s0 s1 s2 s3 s4 s5 s6 s7 s8 s9 s10 s11 s12 hc hi hp a w hS
                    obtain rfl : s11 = false := hi
                    obtain rfl : s9 = true := hp 9 (by kernel_rfl)
                    obtain rfl : s7 = true := hp 7 (by kernel_rfl)
                    obtain ⟨bb59, AA60, cc60, bb61, bb62, hF, hM⟩ := hS
                    refine sStore (i := 62) (off := 0) (cs' := #[.int .i64 0, .int .i64 0]) hF hM (by kernel_rfl) rfl rfl (by kernel_rfl) (by kernel_rfl) rfl (by kernel_rfl) fun w hM => ?_
                    exact ⟨bb59, AA60, cc60, bb61, bb62, (hF.cast (by kernel_rfl)), ((hM.repl 4 (by kernel_rfl)).cast (by kernel_rfl))⟩
                  · intro s0 s1 s2 s3 s4 s5 s6 s7 s8 s9 s10 s11 s12 hc hi hp a w hS
                    obtain rfl : s12 = false := hi
                    obtain rfl : s8 = true := hp 8 (by kernel_rfl)
                    obtain ⟨bb59, AA60, cc60, bb61, bb62, hF, hM⟩ := hS
                    refine eP 31 (v0 := .int .i64 3) (v := .int .i64 3) hF (by kernel_rfl) (fun _ => by kernel_rfl) rfl fun a hF => ?_
                    exact ⟨bb59, AA60, cc60, bb61, bb62, ((hF.repl 7 (by kernel_rfl)).cast (by kernel_rfl)), (hM.cast (by kernel_rfl))⟩
                · intro a w hS
                  obtain ⟨bb59, AA60, cc60, bb61, bb62, hF, hM⟩ := hS
                  replace hF : Fr 283 [(0, some (.bool false)), (1, some (.pointer (some ⟨bb2, 0, none⟩))), (22, some (.int .i64 6)), (25, some (.int .i64 6)), (28, some (.int .i64 131)), (29, some (.slice none 0 0)), (30, some (.pointer (some ⟨bb62, 0, none⟩))), (31, some (.int .i64 3)), (161, some (.tuple #[.slice none 0 0, .agg #[.int .i64 0, .int .i64 0], .int .i64 3])), (162, some (.agg #[.int .i64 131072, .int .i64 2])), (163, some (.slice (some ⟨bb59, 0, none⟩) 2 2)), (164, some (.slice AA60 1 cc60)), (165, some (.slice (some ⟨bb61, 0, none⟩) 2 2)), (166, some (.tuple #[.slice none 0 0, .agg #[.int .i64 0, .int .i64 0], .int .i64 3])), (167, some (.slice none 0 0)), (168, some (.agg #[.int .i64 0, .int .i64 0])), (169, some (.int .i64 3))] a := hF.cast (by kernel_rfl)
                  replace hM : Mem w0.heap.size w0 [(2, some (.row bb2 23 #[.int .i64 131072, .int .i64 2])), (59, some (.row bb59 3 #[.int .i64 5, .int .i64 1543])), (60, some (.own (.slice AA60 1 cc60) 57 2 1 (flat2 ([(5, 1543)])))), (61, some (.row bb61 3 #[.int .i64 0, .int .i64 0])), (62, some (.row bb62 40 #[.int .i64 0, .int .i64 0]))] w := hM.cast (by kernel_rfl)
                  refine hK142 _ _ ?_
                  refine wp_seq_k fun K143 hK143 => ?_
                  refine rF (by kernel_rfl) (by kernel_rfl) (fun S a w => ∃ bb63 : Nat, ∃ AA64 : Option Addr, ∃ cc64 : Nat, ∃ bb65 : Nat, ∃ bb66 : Nat, Fr 283 [(0, some (.bool false)), (1, some (.pointer (some ⟨bb2, 0, none⟩))), (22, some (.int .i64 6)), (25, some (.int .i64 6)), (28, some (.int .i64 131)), (31, some (.int .i64 3)), (32, (cond (S.getD 10 false) (some (.slice none 0 0)) none)), (33, (cond (S.getD 9 false) (some (.pointer (some ⟨bb66, 0, none⟩))) none)), (34, (cond (S.getD 12 false) (some (.int .i64 2)) none)), (170, (cond (S.getD 5 false) (some (.tuple #[.slice none 0 0, .agg #[.int .i64 0, .int .i64 0], .int .i64 2])) none)), (171, (cond (S.getD 0 false) (some (.agg #[.int .i64 131072, .int .i64 2])) none)), (172, (cond (S.getD 1 false) (some (.slice (some ⟨bb63, 0, none⟩) 2 2)) none)), (173, (cond (S.getD 2 false) (some (.slice AA64 1 cc64)) none)), (174, (cond (S.getD 3 false) (some (.slice (some ⟨bb65, 0, none⟩) 1 1)) none)), (175, (cond (S.getD 4 false) (some (.tuple #[.slice none 0 0, .agg #[.int .i64 0, .int .i64 0], .int .i64 2])) none)), (176, (cond (S.getD 6 false) (some (.slice none 0 0)) none)), (177, (cond (S.getD 7 false) (some (.agg #[.int .i64 0, .int .i64 0])) none)), (178, (cond (S.getD 8 false) (some (.int .i64 2)) none))] a ∧ Mem w0.heap.size w0 [(2, some (.row bb2 23 #[.int .i64 131072, .int .i64 2])), (63, (cond (S.getD 1 false) (some (.row bb63 3 #[.int .i64 5, .int .i64 1543])) none)), (64, (cond (S.getD 2 false) (some (.own (.slice AA64 1 cc64) 57 2 1 (flat2 ([(5, 1543)])))) none)), (65, (cond (S.getD 3 false) (some (.row bb65 3 #[.int .i64 0])) none)), (66, (cond (S.getD 11 false) (some (.row bb66 40 #[.int .i64 0, .int .i64 0])) (cond (S.getD 9 false) (some (.row bb66 40 #[.int .i64 0, .int .i64 0])) none)))] w) ?_ ?_ ?_
                  · exact ⟨0, none, 0, 0, 0, (((((((((((((((((((Fr.nil hF).co hF (i := 178) (by kernel_rfl)).co hF (i := 177) (by kernel_rfl)).co hF (i := 176) (by kernel_rfl)).co hF (i := 175) (by kernel_rfl)).co hF (i := 174) (by kernel_rfl)).co hF (i := 173) (by kernel_rfl)).co hF (i := 172) (by kernel_rfl)).co hF (i := 171) (by kernel_rfl)).co hF (i := 170) (by kernel_rfl)).co hF (i := 34) (by kernel_rfl)).co hF (i := 33) (by kernel_rfl)).co hF (i := 32) (by kernel_rfl)).co hF (i := 31) (by kernel_rfl)).co hF (i := 28) (by kernel_rfl)).co hF (i := 25) (by kernel_rfl)).co hF (i := 22) (by kernel_rfl)).co hF (i := 1) (by kernel_rfl)).co hF (i := 0) (by kernel_rfl)), hM.drew.sub (((((Sub.nil.co (k := 66) (by kernel_rfl)).co (k := 65) (by kernel_rfl)).co (k := 64) (by kernel_rfl)).co (k := 63) (by kernel_rfl)).co (k := 2) (by kernel_rfl))⟩
                  · refine stC ?_ (stC ?_ (stC ?_ (stC ?_ (stC ?_ (stC ?_ (stC ?_ (stC ?_ (stC ?_ (stC ?_ (stC ?_ (stC ?_ (stC ?_ (trivial)))))))))))))
                    · intro s0 s1 s2 s3 s4 s5 s6 s7 s8 s9 s10 s11 s12 hc hi hp a w hS
                      obtain rfl : s0 = false := hi
                      obtain ⟨bb63, AA64, cc64, bb65, bb66, hF, hM⟩ := hS
                      refine eL 171 2 0 (v := .agg #[.int .i64 131072, .int .i64 2]) hF hM (by kernel_rfl) rfl rfl (by kernel_rfl) (by kernel_rfl) fun a w hF hM => ?_
                      exact ⟨bb63, AA64, cc64, bb65, bb66, ((hF.repl 10 (by kernel_rfl)).cast (by kernel_rfl)), (hM.cast (by kernel_rfl))⟩
                    · intro s0 s1 s2 s3 s4 s5 s6 s7 s8 s9 s10 s11 s12 hc hi hp a w hS
                      obtain rfl : s1 = false := hi
                      obtain ⟨bb63, AA64, cc64, bb65, bb66, hF, hM⟩ := hS
                      refine eN 172 63 (t := 3) (fun b => .slice (some ⟨b, 0, none⟩) 2 2) #[.int .i64 5, .int .i64 1543] hF hM (by kernel_rfl) (fun _ => by kernel_rfl) fun bb63 a w hF hM => ?_
                      exact ⟨bb63, AA64, cc64, bb65, bb66, ((hF.repl 11 (by kernel_rfl)).cast (by kernel_rfl)), ((hM.repl 1 (by kernel_rfl)).cast (by kernel_rfl))⟩
                    · intro s0 s1 s2 s3 s4 s5 s6 s7 s8 s9 s10 s11 s12 hc hi hp a w hS
                      obtain rfl : s2 = false := hi
                      obtain rfl : s1 = true := hp 1 (by kernel_rfl)
                      obtain ⟨bb63, AA64, cc64, bb65, bb66, hF, hM⟩ := hS
                      refine sOwn 64 (f := 23) (args := #[.slice (some ⟨bb63, 0, none⟩) 2 2]) (mk := fun v => v) (e := 57) (size := 2) (m := 1) (xs := (flat2 ([(5, 1543)]))) hF hM (by kernel_rfl) rfl (by decide) (by kernel_rfl) (fun _ => by kernel_rfl) (trace_w (some ⟨bb63, 0, none⟩) [5, 1543] 2 w (hM.roRow (k := 63) rfl) (by decide)) fun AA64 cc64 a w hF hM => ?_
                      exact ⟨bb63, AA64, cc64, bb65, bb66, ((hF.repl 12 (by kernel_rfl)).cast (by kernel_rfl)), ((hM.repl 2 (by kernel_rfl)).cast (by kernel_rfl))⟩
                    · intro s0 s1 s2 s3 s4 s5 s6 s7 s8 s9 s10 s11 s12 hc hi hp a w hS
                      obtain rfl : s3 = false := hi
                      obtain ⟨bb63, AA64, cc64, bb65, bb66, hF, hM⟩ := hS
                      refine eN 174 65 (t := 3) (fun b => .slice (some ⟨b, 0, none⟩) 1 1) #[.int .i64 0] hF hM (by kernel_rfl) (fun _ => by kernel_rfl) fun bb65 a w hF hM => ?_
                      exact ⟨bb63, AA64, cc64, bb65, bb66, ((hF.repl 13 (by kernel_rfl)).cast (by kernel_rfl)), ((hM.repl 3 (by kernel_rfl)).cast (by kernel_rfl))⟩
                    · intro s0 s1 s2 s3 s4 s5 s6 s7 s8 s9 s10 s11 s12 hc hi hp a w hS
                      obtain rfl : s4 = false := hi
                      obtain rfl : s3 = true := hp 3 (by kernel_rfl)
                      obtain rfl : s2 = true := hp 2 (by kernel_rfl)
                      obtain rfl : s0 = true := hp 0 (by kernel_rfl)
                      obtain ⟨bb63, AA64, cc64, bb65, bb66, hF, hM⟩ := hS
                      refine eM 175 (v := .tuple #[.slice none 0 0, .agg #[.int .i64 0, .int .i64 0], .int .i64 2]) hF hM (by kernel_rfl) (yld_call (f := 12) (args := #[.agg #[.int .i64 131072, .int .i64 2], .slice AA64 1 cc64, .slice (some ⟨bb65, 0, none⟩) 1 1]) hF (by kernel_rfl) (fun _ => by kernel_rfl) (fun w hM => crRun_err (by decide : runS 131072 2 ([(5, 1543)]) [0] = (2, [], 0, 0)) (crRun_w 131072 2 AA64 ([(5, 1543)]) cc64 (some ⟨bb65, 0, none⟩) [0] 1 w (ro_of_own (hM.ok 64 _ rfl)) (hM.roRow (k := 65) rfl) (by decide) (by decide)))) fun a w hF hM => ?_
                      exact ⟨bb63, AA64, cc64, bb65, bb66, ((hF.repl 14 (by kernel_rfl)).cast (by kernel_rfl)), (hM.cast (by kernel_rfl))⟩
                    · intro s0 s1 s2 s3 s4 s5 s6 s7 s8 s9 s10 s11 s12 hc hi hp a w hS
                      obtain rfl : s5 = false := hi
                      obtain rfl : s4 = true := hp 4 (by kernel_rfl)
                      obtain ⟨bb63, AA64, cc64, bb65, bb66, hF, hM⟩ := hS
                      refine eP 170 (v0 := .tuple #[.slice none 0 0, .agg #[.int .i64 0, .int .i64 0], .int .i64 2]) (v := .tuple #[.slice none 0 0, .agg #[.int .i64 0, .int .i64 0], .int .i64 2]) hF (by kernel_rfl) (fun _ => by kernel_rfl) rfl fun a hF => ?_
                      exact ⟨bb63, AA64, cc64, bb65, bb66, ((hF.repl 9 (by kernel_rfl)).cast (by kernel_rfl)), (hM.cast (by kernel_rfl))⟩
                    · intro s0 s1 s2 s3 s4 s5 s6 s7 s8 s9 s10 s11 s12 hc hi hp a w hS
                      obtain rfl : s6 = false := hi
                      obtain rfl : s5 = true := hp 5 (by kernel_rfl)
                      obtain ⟨bb63, AA64, cc64, bb65, bb66, hF, hM⟩ := hS
                      refine eP 176 (v0 := .slice none 0 0) (v := .slice none 0 0) hF (by kernel_rfl) (fun _ => by kernel_rfl) rfl fun a hF => ?_
                      exact ⟨bb63, AA64, cc64, bb65, bb66, ((hF.repl 15 (by kernel_rfl)).cast (by kernel_rfl)), (hM.cast (by kernel_rfl))⟩
                    · intro s0 s1 s2 s3 s4 s5 s6 s7 s8 s9 s10 s11 s12 hc hi hp a w hS
                      obtain rfl : s7 = false := hi
                      obtain rfl : s5 = true := hp 5 (by kernel_rfl)
                      obtain ⟨bb63, AA64, cc64, bb65, bb66, hF, hM⟩ := hS
                      refine eP 177 (v0 := .agg #[.int .i64 0, .int .i64 0]) (v := .agg #[.int .i64 0, .int .i64 0]) hF (by kernel_rfl) (fun _ => by kernel_rfl) rfl fun a hF => ?_
                      exact ⟨bb63, AA64, cc64, bb65, bb66, ((hF.repl 16 (by kernel_rfl)).cast (by kernel_rfl)), (hM.cast (by kernel_rfl))⟩
                    · intro s0 s1 s2 s3 s4 s5 s6 s7 s8 s9 s10 s11 s12 hc hi hp a w hS
                      obtain rfl : s8 = false := hi
                      obtain rfl : s5 = true := hp 5 (by kernel_rfl)
                      obtain ⟨bb63, AA64, cc64, bb65, bb66, hF, hM⟩ := hS
                      refine eP 178 (v0 := .int .i64 2) (v := .int .i64 2) hF (by kernel_rfl) (fun _ => by kernel_rfl) rfl fun a hF => ?_
                      exact ⟨bb63, AA64, cc64, bb65, bb66, ((hF.repl 17 (by kernel_rfl)).cast (by kernel_rfl)), (hM.cast (by kernel_rfl))⟩
                    · intro s0 s1 s2 s3 s4 s5 s6 s7 s8 s9 s10 s11 s12 hc hi hp a w hS
                      obtain rfl : s9 = false := hi
                      obtain rfl : s11 = false := hc.f 11 9 (by kernel_rfl) rfl
                      obtain ⟨bb63, AA64, cc64, bb65, bb66, hF, hM⟩ := hS
                      refine eN 33 66 (t := 40) (fun b => .pointer (some ⟨b, 0, none⟩)) #[.int .i64 0, .int .i64 0] hF hM (by kernel_rfl) (fun _ => by kernel_rfl) fun bb66 a w hF hM => ?_
                      exact ⟨bb63, AA64, cc64, bb65, bb66, ((hF.repl 7 (by kernel_rfl)).cast (by kernel_rfl)), ((hM.repl 4 (by kernel_rfl)).cast (by kernel_rfl))⟩
                    · intro s0 s1 s2 s3 s4 s5 s6 s7 s8 s9 s10 s11 s12 hc hi hp a w hS
                      obtain rfl : s10 = false := hi
                      obtain rfl : s6 = true := hp 6 (by kernel_rfl)
                      obtain ⟨bb63, AA64, cc64, bb65, bb66, hF, hM⟩ := hS
                      refine eP 32 (v0 := .slice none 0 0) (v := .slice none 0 0) hF (by kernel_rfl) (fun _ => by kernel_rfl) rfl fun a hF => ?_
                      exact ⟨bb63, AA64, cc64, bb65, bb66, ((hF.repl 6 (by kernel_rfl)).cast (by kernel_rfl)), (hM.cast (by kernel_rfl))⟩
                    · intro s0 s1 s2 s3 s4 s5 s6 s7 s8 s9 s10 s11 s12 hc hi hp a w hS
                      obtain rfl : s11 = false := hi
                      obtain rfl : s9 = true := hp 9 (by kernel_rfl)
                      obtain rfl : s7 = true := hp 7 (by kernel_rfl)
                      obtain ⟨bb63, AA64, cc64, bb65, bb66, hF, hM⟩ := hS
                      refine sStore (i := 66) (off := 0) (cs' := #[.int .i64 0, .int .i64 0]) hF hM (by kernel_rfl) rfl rfl (by kernel_rfl) (by kernel_rfl) rfl (by kernel_rfl) fun w hM => ?_
                      exact ⟨bb63, AA64, cc64, bb65, bb66, (hF.cast (by kernel_rfl)), ((hM.repl 4 (by kernel_rfl)).cast (by kernel_rfl))⟩
                    · intro s0 s1 s2 s3 s4 s5 s6 s7 s8 s9 s10 s11 s12 hc hi hp a w hS
                      obtain rfl : s12 = false := hi
                      obtain rfl : s8 = true := hp 8 (by kernel_rfl)
                      obtain ⟨bb63, AA64, cc64, bb65, bb66, hF, hM⟩ := hS
                      refine eP 34 (v0 := .int .i64 2) (v := .int .i64 2) hF (by kernel_rfl) (fun _ => by kernel_rfl) rfl fun a hF => ?_
                      exact ⟨bb63, AA64, cc64, bb65, bb66, ((hF.repl 8 (by kernel_rfl)).cast (by kernel_rfl)), (hM.cast (by kernel_rfl))⟩
                  · intro a w hS
                    obtain ⟨bb63, AA64, cc64, bb65, bb66, hF, hM⟩ := hS
                    replace hF : Fr 283 [(0, some (.bool false)), (1, some (.pointer (some ⟨bb2, 0, none⟩))), (22, some (.int .i64 6)), (25, some (.int .i64 6)), (28, some (.int .i64 131)), (31, some (.int .i64 3)), (32, some (.slice none 0 0)), (33, some (.pointer (some ⟨bb66, 0, none⟩))), (34, some (.int .i64 2)), (170, some (.tuple #[.slice none 0 0, .agg #[.int .i64 0, .int .i64 0], .int .i64 2])), (171, some (.agg #[.int .i64 131072, .int .i64 2])), (172, some (.slice (some ⟨bb63, 0, none⟩) 2 2)), (173, some (.slice AA64 1 cc64)), (174, some (.slice (some ⟨bb65, 0, none⟩) 1 1)), (175, some (.tuple #[.slice none 0 0, .agg #[.int .i64 0, .int .i64 0], .int .i64 2])), (176, some (.slice none 0 0)), (177, some (.agg #[.int .i64 0, .int .i64 0])), (178, some (.int .i64 2))] a := hF.cast (by kernel_rfl)
                    replace hM : Mem w0.heap.size w0 [(2, some (.row bb2 23 #[.int .i64 131072, .int .i64 2])), (63, some (.row bb63 3 #[.int .i64 5, .int .i64 1543])), (64, some (.own (.slice AA64 1 cc64) 57 2 1 (flat2 ([(5, 1543)])))), (65, some (.row bb65 3 #[.int .i64 0])), (66, some (.row bb66 40 #[.int .i64 0, .int .i64 0]))] w := hM.cast (by kernel_rfl)
                    refine hK143 _ _ ?_
                    refine wp_seq_k fun K144 hK144 => ?_
                    refine rF (by kernel_rfl) (by kernel_rfl) (fun S a w => ∃ bb67 : Nat, ∃ AA68 : Option Addr, ∃ cc68 : Nat, ∃ bb69 : Nat, ∃ bb70 : Nat, Fr 283 [(0, some (.bool false)), (1, some (.pointer (some ⟨bb2, 0, none⟩))), (22, some (.int .i64 6)), (25, some (.int .i64 6)), (28, some (.int .i64 131)), (31, some (.int .i64 3)), (34, some (.int .i64 2)), (35, (cond (S.getD 10 false) (some (.slice none 0 0)) none)), (36, (cond (S.getD 9 false) (some (.pointer (some ⟨bb70, 0, none⟩))) none)), (37, (cond (S.getD 12 false) (some (.int .i64 2)) none)), (179, (cond (S.getD 5 false) (some (.tuple #[.slice none 0 0, .agg #[.int .i64 0, .int .i64 0], .int .i64 2])) none)), (180, (cond (S.getD 0 false) (some (.agg #[.int .i64 131072, .int .i64 2])) none)), (181, (cond (S.getD 1 false) (some (.slice (some ⟨bb67, 0, none⟩) 2 2)) none)), (182, (cond (S.getD 2 false) (some (.slice AA68 1 cc68)) none)), (183, (cond (S.getD 3 false) (some (.slice (some ⟨bb69, 0, none⟩) 1 1)) none)), (184, (cond (S.getD 4 false) (some (.tuple #[.slice none 0 0, .agg #[.int .i64 0, .int .i64 0], .int .i64 2])) none)), (185, (cond (S.getD 6 false) (some (.slice none 0 0)) none)), (186, (cond (S.getD 7 false) (some (.agg #[.int .i64 0, .int .i64 0])) none)), (187, (cond (S.getD 8 false) (some (.int .i64 2)) none))] a ∧ Mem w0.heap.size w0 [(2, some (.row bb2 23 #[.int .i64 131072, .int .i64 2])), (67, (cond (S.getD 1 false) (some (.row bb67 3 #[.int .i64 5, .int .i64 1])) none)), (68, (cond (S.getD 2 false) (some (.own (.slice AA68 1 cc68) 57 2 1 (flat2 ([(5, 1)])))) none)), (69, (cond (S.getD 3 false) (some (.row bb69 3 #[.int .i64 (-1)])) none)), (70, (cond (S.getD 11 false) (some (.row bb70 40 #[.int .i64 0, .int .i64 0])) (cond (S.getD 9 false) (some (.row bb70 40 #[.int .i64 0, .int .i64 0])) none)))] w) ?_ ?_ ?_
                    · exact ⟨0, none, 0, 0, 0, ((((((((((((((((((((Fr.nil hF).co hF (i := 187) (by kernel_rfl)).co hF (i := 186) (by kernel_rfl)).co hF (i := 185) (by kernel_rfl)).co hF (i := 184) (by kernel_rfl)).co hF (i := 183) (by kernel_rfl)).co hF (i := 182) (by kernel_rfl)).co hF (i := 181) (by kernel_rfl)).co hF (i := 180) (by kernel_rfl)).co hF (i := 179) (by kernel_rfl)).co hF (i := 37) (by kernel_rfl)).co hF (i := 36) (by kernel_rfl)).co hF (i := 35) (by kernel_rfl)).co hF (i := 34) (by kernel_rfl)).co hF (i := 31) (by kernel_rfl)).co hF (i := 28) (by kernel_rfl)).co hF (i := 25) (by kernel_rfl)).co hF (i := 22) (by kernel_rfl)).co hF (i := 1) (by kernel_rfl)).co hF (i := 0) (by kernel_rfl)), hM.drew.sub (((((Sub.nil.co (k := 70) (by kernel_rfl)).co (k := 69) (by kernel_rfl)).co (k := 68) (by kernel_rfl)).co (k := 67) (by kernel_rfl)).co (k := 2) (by kernel_rfl))⟩
                    · refine stC ?_ (stC ?_ (stC ?_ (stC ?_ (stC ?_ (stC ?_ (stC ?_ (stC ?_ (stC ?_ (stC ?_ (stC ?_ (stC ?_ (stC ?_ (trivial)))))))))))))
                      · intro s0 s1 s2 s3 s4 s5 s6 s7 s8 s9 s10 s11 s12 hc hi hp a w hS
                        obtain rfl : s0 = false := hi
                        obtain ⟨bb67, AA68, cc68, bb69, bb70, hF, hM⟩ := hS
                        refine eL 180 2 0 (v := .agg #[.int .i64 131072, .int .i64 2]) hF hM (by kernel_rfl) rfl rfl (by kernel_rfl) (by kernel_rfl) fun a w hF hM => ?_
                        exact ⟨bb67, AA68, cc68, bb69, bb70, ((hF.repl 11 (by kernel_rfl)).cast (by kernel_rfl)), (hM.cast (by kernel_rfl))⟩
                      · intro s0 s1 s2 s3 s4 s5 s6 s7 s8 s9 s10 s11 s12 hc hi hp a w hS
                        obtain rfl : s1 = false := hi
                        obtain ⟨bb67, AA68, cc68, bb69, bb70, hF, hM⟩ := hS
                        refine eN 181 67 (t := 3) (fun b => .slice (some ⟨b, 0, none⟩) 2 2) #[.int .i64 5, .int .i64 1] hF hM (by kernel_rfl) (fun _ => by kernel_rfl) fun bb67 a w hF hM => ?_
                        exact ⟨bb67, AA68, cc68, bb69, bb70, ((hF.repl 12 (by kernel_rfl)).cast (by kernel_rfl)), ((hM.repl 1 (by kernel_rfl)).cast (by kernel_rfl))⟩
                      · intro s0 s1 s2 s3 s4 s5 s6 s7 s8 s9 s10 s11 s12 hc hi hp a w hS
                        obtain rfl : s2 = false := hi
                        obtain rfl : s1 = true := hp 1 (by kernel_rfl)
                        obtain ⟨bb67, AA68, cc68, bb69, bb70, hF, hM⟩ := hS
                        refine sOwn 68 (f := 23) (args := #[.slice (some ⟨bb67, 0, none⟩) 2 2]) (mk := fun v => v) (e := 57) (size := 2) (m := 1) (xs := (flat2 ([(5, 1)]))) hF hM (by kernel_rfl) rfl (by decide) (by kernel_rfl) (fun _ => by kernel_rfl) (trace_w (some ⟨bb67, 0, none⟩) [5, 1] 2 w (hM.roRow (k := 67) rfl) (by decide)) fun AA68 cc68 a w hF hM => ?_
                        exact ⟨bb67, AA68, cc68, bb69, bb70, ((hF.repl 13 (by kernel_rfl)).cast (by kernel_rfl)), ((hM.repl 2 (by kernel_rfl)).cast (by kernel_rfl))⟩
                      · intro s0 s1 s2 s3 s4 s5 s6 s7 s8 s9 s10 s11 s12 hc hi hp a w hS
                        obtain rfl : s3 = false := hi
                        obtain ⟨bb67, AA68, cc68, bb69, bb70, hF, hM⟩ := hS
                        refine eN 183 69 (t := 3) (fun b => .slice (some ⟨b, 0, none⟩) 1 1) #[.int .i64 (-1)] hF hM (by kernel_rfl) (fun _ => by kernel_rfl) fun bb69 a w hF hM => ?_
                        exact ⟨bb67, AA68, cc68, bb69, bb70, ((hF.repl 14 (by kernel_rfl)).cast (by kernel_rfl)), ((hM.repl 3 (by kernel_rfl)).cast (by kernel_rfl))⟩
                      · intro s0 s1 s2 s3 s4 s5 s6 s7 s8 s9 s10 s11 s12 hc hi hp a w hS
                        obtain rfl : s4 = false := hi
                        obtain rfl : s3 = true := hp 3 (by kernel_rfl)
                        obtain rfl : s2 = true := hp 2 (by kernel_rfl)
                        obtain rfl : s0 = true := hp 0 (by kernel_rfl)
                        obtain ⟨bb67, AA68, cc68, bb69, bb70, hF, hM⟩ := hS
                        refine eM 184 (v := .tuple #[.slice none 0 0, .agg #[.int .i64 0, .int .i64 0], .int .i64 2]) hF hM (by kernel_rfl) (yld_call (f := 12) (args := #[.agg #[.int .i64 131072, .int .i64 2], .slice AA68 1 cc68, .slice (some ⟨bb69, 0, none⟩) 1 1]) hF (by kernel_rfl) (fun _ => by kernel_rfl) (fun w hM => crRun_err (by decide : runS 131072 2 ([(5, 1)]) [-1] = (2, [], 0, 0)) (crRun_w 131072 2 AA68 ([(5, 1)]) cc68 (some ⟨bb69, 0, none⟩) [-1] 1 w (ro_of_own (hM.ok 68 _ rfl)) (hM.roRow (k := 69) rfl) (by decide) (by decide)))) fun a w hF hM => ?_
                        exact ⟨bb67, AA68, cc68, bb69, bb70, ((hF.repl 15 (by kernel_rfl)).cast (by kernel_rfl)), (hM.cast (by kernel_rfl))⟩
                      · intro s0 s1 s2 s3 s4 s5 s6 s7 s8 s9 s10 s11 s12 hc hi hp a w hS
                        obtain rfl : s5 = false := hi
                        obtain rfl : s4 = true := hp 4 (by kernel_rfl)
                        obtain ⟨bb67, AA68, cc68, bb69, bb70, hF, hM⟩ := hS
                        refine eP 179 (v0 := .tuple #[.slice none 0 0, .agg #[.int .i64 0, .int .i64 0], .int .i64 2]) (v := .tuple #[.slice none 0 0, .agg #[.int .i64 0, .int .i64 0], .int .i64 2]) hF (by kernel_rfl) (fun _ => by kernel_rfl) rfl fun a hF => ?_
                        exact ⟨bb67, AA68, cc68, bb69, bb70, ((hF.repl 10 (by kernel_rfl)).cast (by kernel_rfl)), (hM.cast (by kernel_rfl))⟩
                      · intro s0 s1 s2 s3 s4 s5 s6 s7 s8 s9 s10 s11 s12 hc hi hp a w hS
                        obtain rfl : s6 = false := hi
                        obtain rfl : s5 = true := hp 5 (by kernel_rfl)
                        obtain ⟨bb67, AA68, cc68, bb69, bb70, hF, hM⟩ := hS
                        refine eP 185 (v0 := .slice none 0 0) (v := .slice none 0 0) hF (by kernel_rfl) (fun _ => by kernel_rfl) rfl fun a hF => ?_
                        exact ⟨bb67, AA68, cc68, bb69, bb70, ((hF.repl 16 (by kernel_rfl)).cast (by kernel_rfl)), (hM.cast (by kernel_rfl))⟩
                      · intro s0 s1 s2 s3 s4 s5 s6 s7 s8 s9 s10 s11 s12 hc hi hp a w hS
                        obtain rfl : s7 = false := hi
                        obtain rfl : s5 = true := hp 5 (by kernel_rfl)
                        obtain ⟨bb67, AA68, cc68, bb69, bb70, hF, hM⟩ := hS
                        refine eP 186 (v0 := .agg #[.int .i64 0, .int .i64 0]) (v := .agg #[.int .i64 0, .int .i64 0]) hF (by kernel_rfl) (fun _ => by kernel_rfl) rfl fun a hF => ?_
                        exact ⟨bb67, AA68, cc68, bb69, bb70, ((hF.repl 17 (by kernel_rfl)).cast (by kernel_rfl)), (hM.cast (by kernel_rfl))⟩
                      · intro s0 s1 s2 s3 s4 s5 s6 s7 s8 s9 s10 s11 s12 hc hi hp a w hS
                        obtain rfl : s8 = false := hi
                        obtain rfl : s5 = true := hp 5 (by kernel_rfl)
                        obtain ⟨bb67, AA68, cc68, bb69, bb70, hF, hM⟩ := hS
                        refine eP 187 (v0 := .int .i64 2) (v := .int .i64 2) hF (by kernel_rfl) (fun _ => by kernel_rfl) rfl fun a hF => ?_
                        exact ⟨bb67, AA68, cc68, bb69, bb70, ((hF.repl 18 (by kernel_rfl)).cast (by kernel_rfl)), (hM.cast (by kernel_rfl))⟩
                      · intro s0 s1 s2 s3 s4 s5 s6 s7 s8 s9 s10 s11 s12 hc hi hp a w hS
                        obtain rfl : s9 = false := hi
                        obtain rfl : s11 = false := hc.f 11 9 (by kernel_rfl) rfl
                        obtain ⟨bb67, AA68, cc68, bb69, bb70, hF, hM⟩ := hS
                        refine eN 36 70 (t := 40) (fun b => .pointer (some ⟨b, 0, none⟩)) #[.int .i64 0, .int .i64 0] hF hM (by kernel_rfl) (fun _ => by kernel_rfl) fun bb70 a w hF hM => ?_
                        exact ⟨bb67, AA68, cc68, bb69, bb70, ((hF.repl 8 (by kernel_rfl)).cast (by kernel_rfl)), ((hM.repl 4 (by kernel_rfl)).cast (by kernel_rfl))⟩
                      · intro s0 s1 s2 s3 s4 s5 s6 s7 s8 s9 s10 s11 s12 hc hi hp a w hS
                        obtain rfl : s10 = false := hi
                        obtain rfl : s6 = true := hp 6 (by kernel_rfl)
                        obtain ⟨bb67, AA68, cc68, bb69, bb70, hF, hM⟩ := hS
                        refine eP 35 (v0 := .slice none 0 0) (v := .slice none 0 0) hF (by kernel_rfl) (fun _ => by kernel_rfl) rfl fun a hF => ?_
                        exact ⟨bb67, AA68, cc68, bb69, bb70, ((hF.repl 7 (by kernel_rfl)).cast (by kernel_rfl)), (hM.cast (by kernel_rfl))⟩
                      · intro s0 s1 s2 s3 s4 s5 s6 s7 s8 s9 s10 s11 s12 hc hi hp a w hS
                        obtain rfl : s11 = false := hi
                        obtain rfl : s9 = true := hp 9 (by kernel_rfl)
                        obtain rfl : s7 = true := hp 7 (by kernel_rfl)
                        obtain ⟨bb67, AA68, cc68, bb69, bb70, hF, hM⟩ := hS
                        refine sStore (i := 70) (off := 0) (cs' := #[.int .i64 0, .int .i64 0]) hF hM (by kernel_rfl) rfl rfl (by kernel_rfl) (by kernel_rfl) rfl (by kernel_rfl) fun w hM => ?_
                        exact ⟨bb67, AA68, cc68, bb69, bb70, (hF.cast (by kernel_rfl)), ((hM.repl 4 (by kernel_rfl)).cast (by kernel_rfl))⟩
                      · intro s0 s1 s2 s3 s4 s5 s6 s7 s8 s9 s10 s11 s12 hc hi hp a w hS
                        obtain rfl : s12 = false := hi
                        obtain rfl : s8 = true := hp 8 (by kernel_rfl)
                        obtain ⟨bb67, AA68, cc68, bb69, bb70, hF, hM⟩ := hS
                        refine eP 37 (v0 := .int .i64 2) (v := .int .i64 2) hF (by kernel_rfl) (fun _ => by kernel_rfl) rfl fun a hF => ?_
                        exact ⟨bb67, AA68, cc68, bb69, bb70, ((hF.repl 9 (by kernel_rfl)).cast (by kernel_rfl)), (hM.cast (by kernel_rfl))⟩
                    · intro a w hS
                      obtain ⟨bb67, AA68, cc68, bb69, bb70, hF, hM⟩ := hS
                      replace hF : Fr 283 [(0, some (.bool false)), (1, some (.pointer (some ⟨bb2, 0, none⟩))), (22, some (.int .i64 6)), (25, some (.int .i64 6)), (28, some (.int .i64 131)), (31, some (.int .i64 3)), (34, some (.int .i64 2)), (35, some (.slice none 0 0)), (36, some (.pointer (some ⟨bb70, 0, none⟩))), (37, some (.int .i64 2)), (179, some (.tuple #[.slice none 0 0, .agg #[.int .i64 0, .int .i64 0], .int .i64 2])), (180, some (.agg #[.int .i64 131072, .int .i64 2])), (181, some (.slice (some ⟨bb67, 0, none⟩) 2 2)), (182, some (.slice AA68 1 cc68)), (183, some (.slice (some ⟨bb69, 0, none⟩) 1 1)), (184, some (.tuple #[.slice none 0 0, .agg #[.int .i64 0, .int .i64 0], .int .i64 2])), (185, some (.slice none 0 0)), (186, some (.agg #[.int .i64 0, .int .i64 0])), (187, some (.int .i64 2))] a := hF.cast (by kernel_rfl)
                      replace hM : Mem w0.heap.size w0 [(2, some (.row bb2 23 #[.int .i64 131072, .int .i64 2])), (67, some (.row bb67 3 #[.int .i64 5, .int .i64 1])), (68, some (.own (.slice AA68 1 cc68) 57 2 1 (flat2 ([(5, 1)])))), (69, some (.row bb69 3 #[.int .i64 (-1)])), (70, some (.row bb70 40 #[.int .i64 0, .int .i64 0]))] w := hM.cast (by kernel_rfl)
                      refine hK144 _ _ ?_
                      refine wp_seq_k fun K145 hK145 => ?_
                      refine rF (by kernel_rfl) (by kernel_rfl) (fun S a w => ∃ bb71 : Nat, ∃ AA72 : Option Addr, ∃ cc72 : Nat, ∃ bb73 : Nat, Fr 283 [(0, some (.bool false)), (1, some (.pointer (some ⟨bb2, 0, none⟩))), (22, some (.int .i64 6)), (25, some (.int .i64 6)), (28, some (.int .i64 131)), (31, some (.int .i64 3)), (34, some (.int .i64 2)), (37, some (.int .i64 2)), (38, (cond (S.getD 9 false) (some (.slice none 0 0)) none)), (39, (cond (S.getD 8 false) (some (.pointer (some ⟨bb73, 0, none⟩))) none)), (40, (cond (S.getD 11 false) (some (.int .i64 2)) none)), (188, (cond (S.getD 4 false) (some (.tuple #[.slice none 0 0, .agg #[.int .i64 0, .int .i64 0], .int .i64 2])) none)), (189, (cond (S.getD 0 false) (some (.agg #[.int .i64 131072, .int .i64 2])) none)), (190, (cond (S.getD 1 false) (some (.slice (some ⟨bb71, 0, none⟩) 2 2)) none)), (191, (cond (S.getD 2 false) (some (.slice AA72 1 cc72)) none)), (192, (cond (S.getD 3 false) (some (.tuple #[.slice none 0 0, .agg #[.int .i64 0, .int .i64 0], .int .i64 2])) none)), (193, (cond (S.getD 5 false) (some (.slice none 0 0)) none)), (194, (cond (S.getD 6 false) (some (.agg #[.int .i64 0, .int .i64 0])) none)), (195, (cond (S.getD 7 false) (some (.int .i64 2)) none))] a ∧ Mem w0.heap.size w0 [(2, some (.row bb2 23 #[.int .i64 131072, .int .i64 2])), (71, (cond (S.getD 1 false) (some (.row bb71 3 #[.int .i64 1073741825, .int .i64 1])) none)), (72, (cond (S.getD 2 false) (some (.own (.slice AA72 1 cc72) 57 2 1 (flat2 ([(1073741825, 1)])))) none)), (73, (cond (S.getD 10 false) (some (.row bb73 40 #[.int .i64 0, .int .i64 0])) (cond (S.getD 8 false) (some (.row bb73 40 #[.int .i64 0, .int .i64 0])) none)))] w) ?_ ?_ ?_
                      · exact ⟨0, none, 0, 0, ((((((((((((((((((((Fr.nil hF).co hF (i := 195) (by kernel_rfl)).co hF (i := 194) (by kernel_rfl)).co hF (i := 193) (by kernel_rfl)).co hF (i := 192) (by kernel_rfl)).co hF (i := 191) (by kernel_rfl)).co hF (i := 190) (by kernel_rfl)).co hF (i := 189) (by kernel_rfl)).co hF (i := 188) (by kernel_rfl)).co hF (i := 40) (by kernel_rfl)).co hF (i := 39) (by kernel_rfl)).co hF (i := 38) (by kernel_rfl)).co hF (i := 37) (by kernel_rfl)).co hF (i := 34) (by kernel_rfl)).co hF (i := 31) (by kernel_rfl)).co hF (i := 28) (by kernel_rfl)).co hF (i := 25) (by kernel_rfl)).co hF (i := 22) (by kernel_rfl)).co hF (i := 1) (by kernel_rfl)).co hF (i := 0) (by kernel_rfl)), hM.drew.sub ((((Sub.nil.co (k := 73) (by kernel_rfl)).co (k := 72) (by kernel_rfl)).co (k := 71) (by kernel_rfl)).co (k := 2) (by kernel_rfl))⟩
                      · refine stC ?_ (stC ?_ (stC ?_ (stC ?_ (stC ?_ (stC ?_ (stC ?_ (stC ?_ (stC ?_ (stC ?_ (stC ?_ (stC ?_ (trivial))))))))))))
                        · intro s0 s1 s2 s3 s4 s5 s6 s7 s8 s9 s10 s11 hc hi hp a w hS
                          obtain rfl : s0 = false := hi
                          obtain ⟨bb71, AA72, cc72, bb73, hF, hM⟩ := hS
                          refine eL 189 2 0 (v := .agg #[.int .i64 131072, .int .i64 2]) hF hM (by kernel_rfl) rfl rfl (by kernel_rfl) (by kernel_rfl) fun a w hF hM => ?_
                          exact ⟨bb71, AA72, cc72, bb73, ((hF.repl 12 (by kernel_rfl)).cast (by kernel_rfl)), (hM.cast (by kernel_rfl))⟩
                        · intro s0 s1 s2 s3 s4 s5 s6 s7 s8 s9 s10 s11 hc hi hp a w hS
                          obtain rfl : s1 = false := hi
                          obtain ⟨bb71, AA72, cc72, bb73, hF, hM⟩ := hS
                          refine eN 190 71 (t := 3) (fun b => .slice (some ⟨b, 0, none⟩) 2 2) #[.int .i64 1073741825, .int .i64 1] hF hM (by kernel_rfl) (fun _ => by kernel_rfl) fun bb71 a w hF hM => ?_
                          exact ⟨bb71, AA72, cc72, bb73, ((hF.repl 13 (by kernel_rfl)).cast (by kernel_rfl)), ((hM.repl 1 (by kernel_rfl)).cast (by kernel_rfl))⟩
                        · intro s0 s1 s2 s3 s4 s5 s6 s7 s8 s9 s10 s11 hc hi hp a w hS
                          obtain rfl : s2 = false := hi
                          obtain rfl : s1 = true := hp 1 (by kernel_rfl)
                          obtain ⟨bb71, AA72, cc72, bb73, hF, hM⟩ := hS
                          refine sOwn 72 (f := 23) (args := #[.slice (some ⟨bb71, 0, none⟩) 2 2]) (mk := fun v => v) (e := 57) (size := 2) (m := 1) (xs := (flat2 ([(1073741825, 1)]))) hF hM (by kernel_rfl) rfl (by decide) (by kernel_rfl) (fun _ => by kernel_rfl) (trace_w (some ⟨bb71, 0, none⟩) [1073741825, 1] 2 w (hM.roRow (k := 71) rfl) (by decide)) fun AA72 cc72 a w hF hM => ?_
                          exact ⟨bb71, AA72, cc72, bb73, ((hF.repl 14 (by kernel_rfl)).cast (by kernel_rfl)), ((hM.repl 2 (by kernel_rfl)).cast (by kernel_rfl))⟩
                        · intro s0 s1 s2 s3 s4 s5 s6 s7 s8 s9 s10 s11 hc hi hp a w hS
                          obtain rfl : s3 = false := hi
                          obtain rfl : s2 = true := hp 2 (by kernel_rfl)
                          obtain rfl : s0 = true := hp 0 (by kernel_rfl)
                          obtain ⟨bb71, AA72, cc72, bb73, hF, hM⟩ := hS
                          refine eM 192 (v := .tuple #[.slice none 0 0, .agg #[.int .i64 0, .int .i64 0], .int .i64 2]) hF hM (by kernel_rfl) (yld_call (f := 12) (args := #[.agg #[.int .i64 131072, .int .i64 2], .slice AA72 1 cc72, .slice none 0 0]) hF (by kernel_rfl) (fun _ => by kernel_rfl) (fun w hM => crRun_err (by decide : runS 131072 2 ([(1073741825, 1)]) ([] : List Int) = (2, [], 0, 0)) (crRun_w 131072 2 AA72 ([(1073741825, 1)]) cc72 none ([] : List Int) 0 w (ro_of_own (hM.ok 72 _ rfl)) Ro.nil (by decide) (by decide)))) fun a w hF hM => ?_
                          exact ⟨bb71, AA72, cc72, bb73, ((hF.repl 15 (by kernel_rfl)).cast (by kernel_rfl)), (hM.cast (by kernel_rfl))⟩
                        · intro s0 s1 s2 s3 s4 s5 s6 s7 s8 s9 s10 s11 hc hi hp a w hS
                          obtain rfl : s4 = false := hi
                          obtain rfl : s3 = true := hp 3 (by kernel_rfl)
                          obtain ⟨bb71, AA72, cc72, bb73, hF, hM⟩ := hS
                          refine eP 188 (v0 := .tuple #[.slice none 0 0, .agg #[.int .i64 0, .int .i64 0], .int .i64 2]) (v := .tuple #[.slice none 0 0, .agg #[.int .i64 0, .int .i64 0], .int .i64 2]) hF (by kernel_rfl) (fun _ => by kernel_rfl) rfl fun a hF => ?_
                          exact ⟨bb71, AA72, cc72, bb73, ((hF.repl 11 (by kernel_rfl)).cast (by kernel_rfl)), (hM.cast (by kernel_rfl))⟩
                        · intro s0 s1 s2 s3 s4 s5 s6 s7 s8 s9 s10 s11 hc hi hp a w hS
                          obtain rfl : s5 = false := hi
                          obtain rfl : s4 = true := hp 4 (by kernel_rfl)
                          obtain ⟨bb71, AA72, cc72, bb73, hF, hM⟩ := hS
                          refine eP 193 (v0 := .slice none 0 0) (v := .slice none 0 0) hF (by kernel_rfl) (fun _ => by kernel_rfl) rfl fun a hF => ?_
                          exact ⟨bb71, AA72, cc72, bb73, ((hF.repl 16 (by kernel_rfl)).cast (by kernel_rfl)), (hM.cast (by kernel_rfl))⟩
                        · intro s0 s1 s2 s3 s4 s5 s6 s7 s8 s9 s10 s11 hc hi hp a w hS
                          obtain rfl : s6 = false := hi
                          obtain rfl : s4 = true := hp 4 (by kernel_rfl)
                          obtain ⟨bb71, AA72, cc72, bb73, hF, hM⟩ := hS
                          refine eP 194 (v0 := .agg #[.int .i64 0, .int .i64 0]) (v := .agg #[.int .i64 0, .int .i64 0]) hF (by kernel_rfl) (fun _ => by kernel_rfl) rfl fun a hF => ?_
                          exact ⟨bb71, AA72, cc72, bb73, ((hF.repl 17 (by kernel_rfl)).cast (by kernel_rfl)), (hM.cast (by kernel_rfl))⟩
                        · intro s0 s1 s2 s3 s4 s5 s6 s7 s8 s9 s10 s11 hc hi hp a w hS
                          obtain rfl : s7 = false := hi
                          obtain rfl : s4 = true := hp 4 (by kernel_rfl)
                          obtain ⟨bb71, AA72, cc72, bb73, hF, hM⟩ := hS
                          refine eP 195 (v0 := .int .i64 2) (v := .int .i64 2) hF (by kernel_rfl) (fun _ => by kernel_rfl) rfl fun a hF => ?_
                          exact ⟨bb71, AA72, cc72, bb73, ((hF.repl 18 (by kernel_rfl)).cast (by kernel_rfl)), (hM.cast (by kernel_rfl))⟩
                        · intro s0 s1 s2 s3 s4 s5 s6 s7 s8 s9 s10 s11 hc hi hp a w hS
                          obtain rfl : s8 = false := hi
                          obtain rfl : s10 = false := hc.f 10 8 (by kernel_rfl) rfl
                          obtain ⟨bb71, AA72, cc72, bb73, hF, hM⟩ := hS
                          refine eN 39 73 (t := 40) (fun b => .pointer (some ⟨b, 0, none⟩)) #[.int .i64 0, .int .i64 0] hF hM (by kernel_rfl) (fun _ => by kernel_rfl) fun bb73 a w hF hM => ?_
                          exact ⟨bb71, AA72, cc72, bb73, ((hF.repl 9 (by kernel_rfl)).cast (by kernel_rfl)), ((hM.repl 3 (by kernel_rfl)).cast (by kernel_rfl))⟩
                        · intro s0 s1 s2 s3 s4 s5 s6 s7 s8 s9 s10 s11 hc hi hp a w hS
                          obtain rfl : s9 = false := hi
                          obtain rfl : s5 = true := hp 5 (by kernel_rfl)
                          obtain ⟨bb71, AA72, cc72, bb73, hF, hM⟩ := hS
                          refine eP 38 (v0 := .slice none 0 0) (v := .slice none 0 0) hF (by kernel_rfl) (fun _ => by kernel_rfl) rfl fun a hF => ?_
                          exact ⟨bb71, AA72, cc72, bb73, ((hF.repl 8 (by kernel_rfl)).cast (by kernel_rfl)), (hM.cast (by kernel_rfl))⟩
                        · intro s0 s1 s2 s3 s4 s5 s6 s7 s8 s9 s10 s11 hc hi hp a w hS
                          obtain rfl : s10 = false := hi
                          obtain rfl : s8 = true := hp 8 (by kernel_rfl)
                          obtain rfl : s6 = true := hp 6 (by kernel_rfl)
                          obtain ⟨bb71, AA72, cc72, bb73, hF, hM⟩ := hS
                          refine sStore (i := 73) (off := 0) (cs' := #[.int .i64 0, .int .i64 0]) hF hM (by kernel_rfl) rfl rfl (by kernel_rfl) (by kernel_rfl) rfl (by kernel_rfl) fun w hM => ?_
                          exact ⟨bb71, AA72, cc72, bb73, (hF.cast (by kernel_rfl)), ((hM.repl 3 (by kernel_rfl)).cast (by kernel_rfl))⟩
                        · intro s0 s1 s2 s3 s4 s5 s6 s7 s8 s9 s10 s11 hc hi hp a w hS
                          obtain rfl : s11 = false := hi
                          obtain rfl : s7 = true := hp 7 (by kernel_rfl)
                          obtain ⟨bb71, AA72, cc72, bb73, hF, hM⟩ := hS
                          refine eP 40 (v0 := .int .i64 2) (v := .int .i64 2) hF (by kernel_rfl) (fun _ => by kernel_rfl) rfl fun a hF => ?_
                          exact ⟨bb71, AA72, cc72, bb73, ((hF.repl 10 (by kernel_rfl)).cast (by kernel_rfl)), (hM.cast (by kernel_rfl))⟩
                      · intro a w hS
                        obtain ⟨bb71, AA72, cc72, bb73, hF, hM⟩ := hS
                        replace hF : Fr 283 [(0, some (.bool false)), (1, some (.pointer (some ⟨bb2, 0, none⟩))), (22, some (.int .i64 6)), (25, some (.int .i64 6)), (28, some (.int .i64 131)), (31, some (.int .i64 3)), (34, some (.int .i64 2)), (37, some (.int .i64 2)), (38, some (.slice none 0 0)), (39, some (.pointer (some ⟨bb73, 0, none⟩))), (40, some (.int .i64 2)), (188, some (.tuple #[.slice none 0 0, .agg #[.int .i64 0, .int .i64 0], .int .i64 2])), (189, some (.agg #[.int .i64 131072, .int .i64 2])), (190, some (.slice (some ⟨bb71, 0, none⟩) 2 2)), (191, some (.slice AA72 1 cc72)), (192, some (.tuple #[.slice none 0 0, .agg #[.int .i64 0, .int .i64 0], .int .i64 2])), (193, some (.slice none 0 0)), (194, some (.agg #[.int .i64 0, .int .i64 0])), (195, some (.int .i64 2))] a := hF.cast (by kernel_rfl)
                        replace hM : Mem w0.heap.size w0 [(2, some (.row bb2 23 #[.int .i64 131072, .int .i64 2])), (71, some (.row bb71 3 #[.int .i64 1073741825, .int .i64 1])), (72, some (.own (.slice AA72 1 cc72) 57 2 1 (flat2 ([(1073741825, 1)])))), (73, some (.row bb73 40 #[.int .i64 0, .int .i64 0]))] w := hM.cast (by kernel_rfl)
                        refine hK145 _ _ ?_
                        refine wp_seq_k fun K146 hK146 => ?_
                        refine rF (by kernel_rfl) (by kernel_rfl) (fun S a w => ∃ bb74 : Nat, ∃ AA75 : Option Addr, ∃ cc75 : Nat, ∃ bb76 : Nat, Fr 283 [(0, some (.bool false)), (1, some (.pointer (some ⟨bb2, 0, none⟩))), (22, some (.int .i64 6)), (25, some (.int .i64 6)), (28, some (.int .i64 131)), (31, some (.int .i64 3)), (34, some (.int .i64 2)), (37, some (.int .i64 2)), (40, some (.int .i64 2)), (41, (cond (S.getD 9 false) (some (.slice none 0 0)) none)), (42, (cond (S.getD 8 false) (some (.pointer (some ⟨bb76, 0, none⟩))) none)), (43, (cond (S.getD 11 false) (some (.int .i64 6)) none)), (196, (cond (S.getD 4 false) (some (.tuple #[.slice none 0 0, .agg #[.int .i64 0, .int .i64 0], .int .i64 6])) none)), (197, (cond (S.getD 0 false) (some (.agg #[.int .i64 131072, .int .i64 2])) none)), (198, (cond (S.getD 1 false) (some (.slice (some ⟨bb74, 0, none⟩) 2 2)) none)), (199, (cond (S.getD 2 false) (some (.slice AA75 1 cc75)) none)), (200, (cond (S.getD 3 false) (some (.tuple #[.slice none 0 0, .agg #[.int .i64 0, .int .i64 0], .int .i64 6])) none)), (201, (cond (S.getD 5 false) (some (.slice none 0 0)) none)), (202, (cond (S.getD 6 false) (some (.agg #[.int .i64 0, .int .i64 0])) none)), (203, (cond (S.getD 7 false) (some (.int .i64 6)) none))] a ∧ Mem w0.heap.size w0 [(2, some (.row bb2 23 #[.int .i64 131072, .int .i64 2])), (74, (cond (S.getD 1 false) (some (.row bb74 3 #[.int .i64 1073741824, .int .i64 1])) none)), (75, (cond (S.getD 2 false) (some (.own (.slice AA75 1 cc75) 57 2 1 (flat2 ([(1073741824, 1)])))) none)), (76, (cond (S.getD 10 false) (some (.row bb76 40 #[.int .i64 0, .int .i64 0])) (cond (S.getD 8 false) (some (.row bb76 40 #[.int .i64 0, .int .i64 0])) none)))] w) ?_ ?_ ?_
                        · exact ⟨0, none, 0, 0, (((((((((((((((((((((Fr.nil hF).co hF (i := 203) (by kernel_rfl)).co hF (i := 202) (by kernel_rfl)).co hF (i := 201) (by kernel_rfl)).co hF (i := 200) (by kernel_rfl)).co hF (i := 199) (by kernel_rfl)).co hF (i := 198) (by kernel_rfl)).co hF (i := 197) (by kernel_rfl)).co hF (i := 196) (by kernel_rfl)).co hF (i := 43) (by kernel_rfl)).co hF (i := 42) (by kernel_rfl)).co hF (i := 41) (by kernel_rfl)).co hF (i := 40) (by kernel_rfl)).co hF (i := 37) (by kernel_rfl)).co hF (i := 34) (by kernel_rfl)).co hF (i := 31) (by kernel_rfl)).co hF (i := 28) (by kernel_rfl)).co hF (i := 25) (by kernel_rfl)).co hF (i := 22) (by kernel_rfl)).co hF (i := 1) (by kernel_rfl)).co hF (i := 0) (by kernel_rfl)), hM.drew.sub ((((Sub.nil.co (k := 76) (by kernel_rfl)).co (k := 75) (by kernel_rfl)).co (k := 74) (by kernel_rfl)).co (k := 2) (by kernel_rfl))⟩
                        · refine stC ?_ (stC ?_ (stC ?_ (stC ?_ (stC ?_ (stC ?_ (stC ?_ (stC ?_ (stC ?_ (stC ?_ (stC ?_ (stC ?_ (trivial))))))))))))
                          · intro s0 s1 s2 s3 s4 s5 s6 s7 s8 s9 s10 s11 hc hi hp a w hS
                            obtain rfl : s0 = false := hi
                            obtain ⟨bb74, AA75, cc75, bb76, hF, hM⟩ := hS
                            refine eL 197 2 0 (v := .agg #[.int .i64 131072, .int .i64 2]) hF hM (by kernel_rfl) rfl rfl (by kernel_rfl) (by kernel_rfl) fun a w hF hM => ?_
                            exact ⟨bb74, AA75, cc75, bb76, ((hF.repl 13 (by kernel_rfl)).cast (by kernel_rfl)), (hM.cast (by kernel_rfl))⟩
                          · intro s0 s1 s2 s3 s4 s5 s6 s7 s8 s9 s10 s11 hc hi hp a w hS
                            obtain rfl : s1 = false := hi
                            obtain ⟨bb74, AA75, cc75, bb76, hF, hM⟩ := hS
                            refine eN 198 74 (t := 3) (fun b => .slice (some ⟨b, 0, none⟩) 2 2) #[.int .i64 1073741824, .int .i64 1] hF hM (by kernel_rfl) (fun _ => by kernel_rfl) fun bb74 a w hF hM => ?_
                            exact ⟨bb74, AA75, cc75, bb76, ((hF.repl 14 (by kernel_rfl)).cast (by kernel_rfl)), ((hM.repl 1 (by kernel_rfl)).cast (by kernel_rfl))⟩
                          · intro s0 s1 s2 s3 s4 s5 s6 s7 s8 s9 s10 s11 hc hi hp a w hS
                            obtain rfl : s2 = false := hi
                            obtain rfl : s1 = true := hp 1 (by kernel_rfl)
                            obtain ⟨bb74, AA75, cc75, bb76, hF, hM⟩ := hS
                            refine sOwn 75 (f := 23) (args := #[.slice (some ⟨bb74, 0, none⟩) 2 2]) (mk := fun v => v) (e := 57) (size := 2) (m := 1) (xs := (flat2 ([(1073741824, 1)]))) hF hM (by kernel_rfl) rfl (by decide) (by kernel_rfl) (fun _ => by kernel_rfl) (trace_w (some ⟨bb74, 0, none⟩) [1073741824, 1] 2 w (hM.roRow (k := 74) rfl) (by decide)) fun AA75 cc75 a w hF hM => ?_
                            exact ⟨bb74, AA75, cc75, bb76, ((hF.repl 15 (by kernel_rfl)).cast (by kernel_rfl)), ((hM.repl 2 (by kernel_rfl)).cast (by kernel_rfl))⟩
                          · intro s0 s1 s2 s3 s4 s5 s6 s7 s8 s9 s10 s11 hc hi hp a w hS
                            obtain rfl : s3 = false := hi
                            obtain rfl : s2 = true := hp 2 (by kernel_rfl)
                            obtain rfl : s0 = true := hp 0 (by kernel_rfl)
                            obtain ⟨bb74, AA75, cc75, bb76, hF, hM⟩ := hS
                            refine eM 200 (v := .tuple #[.slice none 0 0, .agg #[.int .i64 0, .int .i64 0], .int .i64 6]) hF hM (by kernel_rfl) (yld_call (f := 12) (args := #[.agg #[.int .i64 131072, .int .i64 2], .slice AA75 1 cc75, .slice none 0 0]) hF (by kernel_rfl) (fun _ => by kernel_rfl) (fun w hM => crRun_err (by decide : runS 131072 2 ([(1073741824, 1)]) ([] : List Int) = (6, [], 0, 0)) (crRun_w 131072 2 AA75 ([(1073741824, 1)]) cc75 none ([] : List Int) 0 w (ro_of_own (hM.ok 75 _ rfl)) Ro.nil (by decide) (by decide)))) fun a w hF hM => ?_
                            exact ⟨bb74, AA75, cc75, bb76, ((hF.repl 16 (by kernel_rfl)).cast (by kernel_rfl)), (hM.cast (by kernel_rfl))⟩
                          · intro s0 s1 s2 s3 s4 s5 s6 s7 s8 s9 s10 s11 hc hi hp a w hS
                            obtain rfl : s4 = false := hi
                            obtain rfl : s3 = true := hp 3 (by kernel_rfl)
                            obtain ⟨bb74, AA75, cc75, bb76, hF, hM⟩ := hS
                            refine eP 196 (v0 := .tuple #[.slice none 0 0, .agg #[.int .i64 0, .int .i64 0], .int .i64 6]) (v := .tuple #[.slice none 0 0, .agg #[.int .i64 0, .int .i64 0], .int .i64 6]) hF (by kernel_rfl) (fun _ => by kernel_rfl) rfl fun a hF => ?_
                            exact ⟨bb74, AA75, cc75, bb76, ((hF.repl 12 (by kernel_rfl)).cast (by kernel_rfl)), (hM.cast (by kernel_rfl))⟩
                          · intro s0 s1 s2 s3 s4 s5 s6 s7 s8 s9 s10 s11 hc hi hp a w hS
                            obtain rfl : s5 = false := hi
                            obtain rfl : s4 = true := hp 4 (by kernel_rfl)
                            obtain ⟨bb74, AA75, cc75, bb76, hF, hM⟩ := hS
                            refine eP 201 (v0 := .slice none 0 0) (v := .slice none 0 0) hF (by kernel_rfl) (fun _ => by kernel_rfl) rfl fun a hF => ?_
                            exact ⟨bb74, AA75, cc75, bb76, ((hF.repl 17 (by kernel_rfl)).cast (by kernel_rfl)), (hM.cast (by kernel_rfl))⟩
                          · intro s0 s1 s2 s3 s4 s5 s6 s7 s8 s9 s10 s11 hc hi hp a w hS
                            obtain rfl : s6 = false := hi
                            obtain rfl : s4 = true := hp 4 (by kernel_rfl)
                            obtain ⟨bb74, AA75, cc75, bb76, hF, hM⟩ := hS
                            refine eP 202 (v0 := .agg #[.int .i64 0, .int .i64 0]) (v := .agg #[.int .i64 0, .int .i64 0]) hF (by kernel_rfl) (fun _ => by kernel_rfl) rfl fun a hF => ?_
                            exact ⟨bb74, AA75, cc75, bb76, ((hF.repl 18 (by kernel_rfl)).cast (by kernel_rfl)), (hM.cast (by kernel_rfl))⟩
                          · intro s0 s1 s2 s3 s4 s5 s6 s7 s8 s9 s10 s11 hc hi hp a w hS
                            obtain rfl : s7 = false := hi
                            obtain rfl : s4 = true := hp 4 (by kernel_rfl)
                            obtain ⟨bb74, AA75, cc75, bb76, hF, hM⟩ := hS
                            refine eP 203 (v0 := .int .i64 6) (v := .int .i64 6) hF (by kernel_rfl) (fun _ => by kernel_rfl) rfl fun a hF => ?_
                            exact ⟨bb74, AA75, cc75, bb76, ((hF.repl 19 (by kernel_rfl)).cast (by kernel_rfl)), (hM.cast (by kernel_rfl))⟩
                          · intro s0 s1 s2 s3 s4 s5 s6 s7 s8 s9 s10 s11 hc hi hp a w hS
                            obtain rfl : s8 = false := hi
                            obtain rfl : s10 = false := hc.f 10 8 (by kernel_rfl) rfl
                            obtain ⟨bb74, AA75, cc75, bb76, hF, hM⟩ := hS
                            refine eN 42 76 (t := 40) (fun b => .pointer (some ⟨b, 0, none⟩)) #[.int .i64 0, .int .i64 0] hF hM (by kernel_rfl) (fun _ => by kernel_rfl) fun bb76 a w hF hM => ?_
                            exact ⟨bb74, AA75, cc75, bb76, ((hF.repl 10 (by kernel_rfl)).cast (by kernel_rfl)), ((hM.repl 3 (by kernel_rfl)).cast (by kernel_rfl))⟩
                          · intro s0 s1 s2 s3 s4 s5 s6 s7 s8 s9 s10 s11 hc hi hp a w hS
                            obtain rfl : s9 = false := hi
                            obtain rfl : s5 = true := hp 5 (by kernel_rfl)
                            obtain ⟨bb74, AA75, cc75, bb76, hF, hM⟩ := hS
                            refine eP 41 (v0 := .slice none 0 0) (v := .slice none 0 0) hF (by kernel_rfl) (fun _ => by kernel_rfl) rfl fun a hF => ?_
                            exact ⟨bb74, AA75, cc75, bb76, ((hF.repl 9 (by kernel_rfl)).cast (by kernel_rfl)), (hM.cast (by kernel_rfl))⟩
                          · intro s0 s1 s2 s3 s4 s5 s6 s7 s8 s9 s10 s11 hc hi hp a w hS
                            obtain rfl : s10 = false := hi
                            obtain rfl : s8 = true := hp 8 (by kernel_rfl)
                            obtain rfl : s6 = true := hp 6 (by kernel_rfl)
                            obtain ⟨bb74, AA75, cc75, bb76, hF, hM⟩ := hS
                            refine sStore (i := 76) (off := 0) (cs' := #[.int .i64 0, .int .i64 0]) hF hM (by kernel_rfl) rfl rfl (by kernel_rfl) (by kernel_rfl) rfl (by kernel_rfl) fun w hM => ?_
                            exact ⟨bb74, AA75, cc75, bb76, (hF.cast (by kernel_rfl)), ((hM.repl 3 (by kernel_rfl)).cast (by kernel_rfl))⟩
                          · intro s0 s1 s2 s3 s4 s5 s6 s7 s8 s9 s10 s11 hc hi hp a w hS
                            obtain rfl : s11 = false := hi
                            obtain rfl : s7 = true := hp 7 (by kernel_rfl)
                            obtain ⟨bb74, AA75, cc75, bb76, hF, hM⟩ := hS
                            refine eP 43 (v0 := .int .i64 6) (v := .int .i64 6) hF (by kernel_rfl) (fun _ => by kernel_rfl) rfl fun a hF => ?_
                            exact ⟨bb74, AA75, cc75, bb76, ((hF.repl 11 (by kernel_rfl)).cast (by kernel_rfl)), (hM.cast (by kernel_rfl))⟩
                        · intro a w hS
                          obtain ⟨bb74, AA75, cc75, bb76, hF, hM⟩ := hS
                          replace hF : Fr 283 [(0, some (.bool false)), (1, some (.pointer (some ⟨bb2, 0, none⟩))), (22, some (.int .i64 6)), (25, some (.int .i64 6)), (28, some (.int .i64 131)), (31, some (.int .i64 3)), (34, some (.int .i64 2)), (37, some (.int .i64 2)), (40, some (.int .i64 2)), (41, some (.slice none 0 0)), (42, some (.pointer (some ⟨bb76, 0, none⟩))), (43, some (.int .i64 6)), (196, some (.tuple #[.slice none 0 0, .agg #[.int .i64 0, .int .i64 0], .int .i64 6])), (197, some (.agg #[.int .i64 131072, .int .i64 2])), (198, some (.slice (some ⟨bb74, 0, none⟩) 2 2)), (199, some (.slice AA75 1 cc75)), (200, some (.tuple #[.slice none 0 0, .agg #[.int .i64 0, .int .i64 0], .int .i64 6])), (201, some (.slice none 0 0)), (202, some (.agg #[.int .i64 0, .int .i64 0])), (203, some (.int .i64 6))] a := hF.cast (by kernel_rfl)
                          replace hM : Mem w0.heap.size w0 [(2, some (.row bb2 23 #[.int .i64 131072, .int .i64 2])), (74, some (.row bb74 3 #[.int .i64 1073741824, .int .i64 1])), (75, some (.own (.slice AA75 1 cc75) 57 2 1 (flat2 ([(1073741824, 1)])))), (76, some (.row bb76 40 #[.int .i64 0, .int .i64 0]))] w := hM.cast (by kernel_rfl)
                          refine hK146 _ _ ?_
                          refine wp_seq_k fun K147 hK147 => ?_
                          refine wp_region_lit ?_
                          refine wl (eL 205 2 0 (v := .agg #[.int .i64 131072, .int .i64 2]) hF hM (by kernel_rfl) rfl rfl (by kernel_rfl) (by kernel_rfl) fun a w hF hM => ?_)
                          refine sB 1 [(206, .agg #[.int .i64 10, .int .i64 5242880])] hF (by kernel_rfl) fun a hF => ?_
                          refine wl (eM 207 (v := .tuple #[.int .i64 11, .agg #[.int .i64 19, .int .i64 (-3145728)], .int .i64 0]) hF hM (by kernel_rfl) ((yld_call (f := 20) (args := #[.agg #[.int .i64 131072, .int .i64 2], .agg #[.int .i64 10, .int .i64 5242880], .int .i64 11, .int .i64 0, .int .i64 4]) hF (by kernel_rfl) (fun _ => by kernel_rfl) (fun w hM => crStep_w 131072 2 10 5242880 11 0 4 w)).to (by kernel_rfl)) fun a w hF hM => ?_)
                          refine sB 4 [(204, .tuple #[.int .i64 11, .agg #[.int .i64 19, .int .i64 (-3145728)], .int .i64 0]), (208, .int .i64 11), (209, .agg #[.int .i64 19, .int .i64 (-3145728)]), (210, .int .i64 0)] hF (by kernel_rfl) fun a hF => ?_
                          refine wl (eN 45 77 (t := 40) (fun b => .pointer (some ⟨b, 0, none⟩)) #[.int .i64 0, .int .i64 0] hF hM (by kernel_rfl) (fun _ => by kernel_rfl) fun bb77 a w hF hM => ?_)
                          refine sB 1 [(44, .int .i64 11)] hF (by kernel_rfl) fun a hF => ?_
                          refine wl (sStore (i := 77) (off := 0) (cs' := #[.int .i64 19, .int .i64 (-3145728)]) hF hM (by kernel_rfl) rfl rfl (by kernel_rfl) (by kernel_rfl) rfl (by kernel_rfl) fun w hM => ?_)
                          refine sB 1 [(46, .int .i64 0)] hF (by kernel_rfl) fun a hF => ?_
                          refine wpList_nil ?_
                          refine hK147 _ _ ?_
                          refine wp_seq_k fun K148 hK148 => ?_
                          refine wp_region_lit ?_
                          refine wl (eL 212 2 0 (v := .agg #[.int .i64 131072, .int .i64 2]) hF hM (by kernel_rfl) rfl rfl (by kernel_rfl) (by kernel_rfl) fun a w hF hM => ?_)
                          refine sB 1 [(213, .agg #[.int .i64 10, .int .i64 5242880])] hF (by kernel_rfl) fun a hF => ?_
                          refine wl (eM 214 (v := .tuple #[.int .i64 10, .agg #[.int .i64 18, .int .i64 2097152], .int .i64 0]) hF hM (by kernel_rfl) ((yld_call (f := 20) (args := #[.agg #[.int .i64 131072, .int .i64 2], .agg #[.int .i64 10, .int .i64 5242880], .int .i64 10, .int .i64 0, .int .i64 4]) hF (by kernel_rfl) (fun _ => by kernel_rfl) (fun w hM => crStep_w 131072 2 10 5242880 10 0 4 w)).to (by kernel_rfl)) fun a w hF hM => ?_)
                          refine sB 4 [(211, .tuple #[.int .i64 10, .agg #[.int .i64 18, .int .i64 2097152], .int .i64 0]), (215, .int .i64 10), (216, .agg #[.int .i64 18, .int .i64 2097152]), (217, .int .i64 0)] hF (by kernel_rfl) fun a hF => ?_
                          refine wl (eN 48 78 (t := 40) (fun b => .pointer (some ⟨b, 0, none⟩)) #[.int .i64 0, .int .i64 0] hF hM (by kernel_rfl) (fun _ => by kernel_rfl) fun bb78 a w hF hM => ?_)
                          refine sB 1 [(47, .int .i64 10)] hF (by kernel_rfl) fun a hF => ?_
                          refine wl (sStore (i := 78) (off := 0) (cs' := #[.int .i64 18, .int .i64 2097152]) hF hM (by kernel_rfl) rfl rfl (by kernel_rfl) (by kernel_rfl) rfl (by kernel_rfl) fun w hM => ?_)
                          refine sB 1 [(49, .int .i64 0)] hF (by kernel_rfl) fun a hF => ?_
                          refine wpList_nil ?_
                          refine hK148 _ _ ?_
                          refine wp_seq_k fun K149 hK149 => ?_
                          refine wp_region_lit ?_
                          refine sB 1 [(218, .int .i64 6)] hF (by kernel_rfl) fun a hF => ?_
                          refine wl (eP 219 (v0 := .bool (decide (6 = 6))) (v := .bool true) hF (by kernel_rfl) (fun _ => by kernel_rfl) (bT (by omega)) fun a hF => ?_)
                          refine sB 2 [(220, .bool true), (221, .int .i64 6)] hF (by kernel_rfl) fun a hF => ?_
                          refine wl (eP 222 (v0 := .bool (decide (6 = 6))) (v := .bool true) hF (by kernel_rfl) (fun _ => by kernel_rfl) (bT (by omega)) fun a hF => ?_)
                          refine sB 3 [(223, .bool true), (224, .bool true), (225, .int .i64 131)] hF (by kernel_rfl) fun a hF => ?_
                          refine wl (eP 226 (v0 := .bool (decide (131 = 131))) (v := .bool true) hF (by kernel_rfl) (fun _ => by kernel_rfl) (bT (by omega)) fun a hF => ?_)
                          refine sB 3 [(227, .bool true), (228, .bool true), (229, .int .i64 3)] hF (by kernel_rfl) fun a hF => ?_
                          refine wl (eP 230 (v0 := .bool (decide (3 = 3))) (v := .bool true) hF (by kernel_rfl) (fun _ => by kernel_rfl) (bT (by omega)) fun a hF => ?_)
                          refine sB 3 [(231, .bool true), (232, .bool true), (233, .int .i64 2)] hF (by kernel_rfl) fun a hF => ?_
                          refine wl (eP 234 (v0 := .bool (decide (2 = 2))) (v := .bool true) hF (by kernel_rfl) (fun _ => by kernel_rfl) (bT (by omega)) fun a hF => ?_)
                          refine sB 3 [(235, .bool true), (236, .bool true), (237, .int .i64 2)] hF (by kernel_rfl) fun a hF => ?_
                          refine wl (eP 238 (v0 := .bool (decide (2 = 2))) (v := .bool true) hF (by kernel_rfl) (fun _ => by kernel_rfl) (bT (by omega)) fun a hF => ?_)
                          refine sB 3 [(239, .bool true), (240, .bool true), (241, .int .i64 2)] hF (by kernel_rfl) fun a hF => ?_
                          refine wl (eP 242 (v0 := .bool (decide (2 = 2))) (v := .bool true) hF (by kernel_rfl) (fun _ => by kernel_rfl) (bT (by omega)) fun a hF => ?_)
                          refine sB 3 [(243, .bool true), (244, .bool true), (245, .int .i64 6)] hF (by kernel_rfl) fun a hF => ?_
                          refine wl (eP 246 (v0 := .bool (decide (6 = 6))) (v := .bool true) hF (by kernel_rfl) (fun _ => by kernel_rfl) (bT (by omega)) fun a hF => ?_)
                          refine sB 2 [(247, .bool true), (50, .bool true)] hF (by kernel_rfl) fun a hF => ?_
                          refine wpList_nil ?_
                          refine hK149 _ _ ?_
                          refine wp_seq_k fun K150 hK150 => ?_
                          refine wp_region_lit ?_
                          refine sB 1 [(248, .bool true)] hF (by kernel_rfl) fun a hF => ?_
                          refine wl (eM 249 (v := .bool true) hF hM (by kernel_rfl) (yld_call (f := 15) (args := #[]) hF (by kernel_rfl) (fun _ => by kernel_rfl) (fun w hM => works_w w)) fun a w hF hM => ?_)
                          refine sB 6 [(250, .bool true), (251, .bool true), (252, .bool true), (253, .bool true), (254, .bool true), (255, .int .i64 11)] hF (by kernel_rfl) fun a hF => ?_
                          refine wl (eP 256 (v0 := .bool (decide (11 = 11))) (v := .bool true) hF (by kernel_rfl) (fun _ => by kernel_rfl) (bT (by omega)) fun a hF => ?_)
                          refine sB 2 [(257, .bool true), (258, .bool true)] hF (by kernel_rfl) fun a hF => ?_
                          refine wl (eL 259 77 0 (v := .agg #[.int .i64 19, .int .i64 (-3145728)]) hF hM (by kernel_rfl) rfl rfl (by kernel_rfl) (by kernel_rfl) fun a w hF hM => ?_)
                          refine sB 1 [(260, .agg #[.int .i64 19, .int .i64 (-3145728)])] hF (by kernel_rfl) fun a hF => ?_
                          refine wl (eM 261 (v := .bool true) hF hM (by kernel_rfl) ((yld_eql (C := Mem _ _ _) [19, -3145728] [19, -3145728] hF rfl (by kernel_rfl) (by kernel_rfl) (by kernel_rfl) rfl (by kernel_rfl) (by kernel_rfl) (by kernel_rfl) rfl rfl).to (bT (by decide))) fun a w hF hM => ?_)
                          refine sB 3 [(262, .bool true), (263, .bool true), (264, .int .i64 0)] hF (by kernel_rfl) fun a hF => ?_
                          refine wl (eP 265 (v0 := .bool (decide (0 = 0))) (v := .bool true) hF (by kernel_rfl) (fun _ => by kernel_rfl) (bT (by omega)) fun a hF => ?_)
                          refine sB 3 [(266, .bool true), (267, .bool true), (268, .int .i64 10)] hF (by kernel_rfl) fun a hF => ?_
                          refine wl (eP 269 (v0 := .bool (decide (10 = 10))) (v := .bool true) hF (by kernel_rfl) (fun _ => by kernel_rfl) (bT (by omega)) fun a hF => ?_)
                          refine sB 2 [(270, .bool true), (271, .bool true)] hF (by kernel_rfl) fun a hF => ?_
                          refine wl (eL 272 78 0 (v := .agg #[.int .i64 18, .int .i64 2097152]) hF hM (by kernel_rfl) rfl rfl (by kernel_rfl) (by kernel_rfl) fun a w hF hM => ?_)
                          refine sB 1 [(273, .agg #[.int .i64 18, .int .i64 2097152])] hF (by kernel_rfl) fun a hF => ?_
                          refine wl (eM 274 (v := .bool true) hF hM (by kernel_rfl) ((yld_eql (C := Mem _ _ _) [18, 2097152] [18, 2097152] hF rfl (by kernel_rfl) (by kernel_rfl) (by kernel_rfl) rfl (by kernel_rfl) (by kernel_rfl) (by kernel_rfl) rfl rfl).to (bT (by decide))) fun a w hF hM => ?_)
                          refine sB 3 [(275, .bool true), (276, .bool true), (277, .int .i64 0)] hF (by kernel_rfl) fun a hF => ?_
                          refine wl (eP 278 (v0 := .bool (decide (0 = 0))) (v := .bool true) hF (by kernel_rfl) (fun _ => by kernel_rfl) (bT (by omega)) fun a hF => ?_)
                          refine sB 2 [(279, .bool true), (280, .bool true)] hF (by kernel_rfl) fun a hF => ?_
                          refine wl (sC (f := 24) (args := #[.slice none 0 0, .slice none 0 0, .int .i64 0, .int .i64 0, .slice none 0 0]) hF (by kernel_rfl) rfl (by decide) (by kernel_rfl) (fun _ => by kernel_rfl) ?_)
                          refine enterK 36 Try.func24 rfl rfl rfl ?_
                          intro a1 hF1 QR151 hR151 hNR151
                          refine wp_seq_k fun K152 hK152 => ?_
                          refine wp_region_lit ?_
                          refine sB 1 [(10, .bool false)] hF1 (by kernel_rfl) fun a1 hF1 => ?_
                          refine wpList_nil ?_
                          refine hK152 _ _ ?_
                          refine wp_seq_k fun K153 hK153 => ?_
                          refine wp_region_lit ?_
                          refine wl (sC (f := 22) (args := #[]) hF1 (by kernel_rfl) rfl (by decide) (by kernel_rfl) (fun _ => by kernel_rfl) ?_)
                          refine enterK 2 Try.func22 rfl rfl rfl ?_
                          intro a2 hF2 QR154 hR154 hNR154
                          refine wp_seq_k fun K155 hK155 => ?_
                          refine wp_region_lit ?_
                          refine wl (eN 0 79 (t := 23) (fun b => .pointer (some ⟨b, 0, none⟩)) #[.int .i64 0, .int .i64 0] hF2 hM (by kernel_rfl) (fun _ => by kernel_rfl) fun bb79 a2 w hF2 hM => ?_)
                          refine wpList_nil ?_
                          refine hK155 _ _ ?_
                          refine wp_seq_k fun K156 hK156 => ?_
                          refine wp_region_lit ?_
                          refine sB 1 [(1, .agg #[.int .i64 131072, .int .i64 2])] hF2 (by kernel_rfl) fun a2 hF2 => ?_
                          refine wl (sStore (i := 79) (off := 0) (cs' := #[.int .i64 131072, .int .i64 2]) hF2 hM (by kernel_rfl) rfl rfl (by kernel_rfl) (by kernel_rfl) rfl (by kernel_rfl) fun w hM => ?_)
                          refine wpList_nil ?_
                          refine hK156 _ _ ?_
                          refine wp_ret ?_
                          refine hR154 _ _ ?_
                          refine ret_of hF2 hM (.cell (i := 79) rfl rfl (v := .agg #[.int .i64 131072, .int .i64 2]) (by kernel_rfl) (.nil)) ⟨_, rfl, ?_⟩
                          intro a1 hF1
                          refine sB 2 [(16, .slice none 0 0), (17, .slice none 0 0)] hF1 (by kernel_rfl) fun a1 hF1 => ?_
                          refine wl (sOwn 80 (f := 12) (args := #[.agg #[.int .i64 131072, .int .i64 2], .slice none 0 0, .slice none 0 0]) (mk := fun v => .tuple #[v, .agg #[.int .i64 (0), .int .i64 (0)], .int .i64 0]) (e := 3) (size := 1) (m := 0) (xs := (([]).map (Value.int .i64))) hF1 hM (by kernel_rfl) rfl (by decide) (by kernel_rfl) (fun _ => by kernel_rfl) (crRun_ok (by decide : runS 131072 2 ([] : List (Int × Int)) ([] : List Int) = (0, [], 0, 0)) (crRun_w 131072 2 none ([] : List (Int × Int)) 0 none ([] : List Int) 0 w Ro.nil Ro.nil (by decide) (by decide))) fun AA80 cc80 a1 w hF1 hM => ?_)
                          refine sB 4 [(14, .tuple #[.slice AA80 0 cc80, .agg #[.int .i64 0, .int .i64 0], .int .i64 0]), (19, .slice AA80 0 cc80), (20, .agg #[.int .i64 0, .int .i64 0]), (21, .int .i64 0)] hF1 (by kernel_rfl) fun a1 hF1 => ?_
                          refine wl (eN 12 81 (t := 40) (fun b => .pointer (some ⟨b, 0, none⟩)) #[.int .i64 0, .int .i64 0] hF1 hM (by kernel_rfl) (fun _ => by kernel_rfl) fun bb81 a1 w hF1 hM => ?_)
                          refine sB 1 [(11, .slice AA80 0 cc80)] hF1 (by kernel_rfl) fun a1 hF1 => ?_
                          refine wl (sStore (i := 81) (off := 0) (cs' := #[.int .i64 0, .int .i64 0]) hF1 hM (by kernel_rfl) rfl rfl (by kernel_rfl) (by kernel_rfl) rfl (by kernel_rfl) fun w hM => ?_)
                          refine sB 1 [(13, .int .i64 0)] hF1 (by kernel_rfl) fun a1 hF1 => ?_
                          refine wpList_nil ?_
                          refine hK153 _ _ ?_
                          refine wp_seq_k fun K157 hK157 => ?_
                          refine wp_region_lit ?_
                          refine sB 1 [(22, .int .i64 0)] hF1 (by kernel_rfl) fun a1 hF1 => ?_
                          refine wl (eP 23 (v0 := .bool (decide (0 = 0))) (v := .bool true) hF1 (by kernel_rfl) (fun _ => by kernel_rfl) (bT (by omega)) fun a1 hF1 => ?_)
                          refine sB 3 [(24, .bool true), (25, .slice AA80 0 cc80), (26, .slice none 0 0)] hF1 (by kernel_rfl) fun a1 hF1 => ?_
                          refine wl (eM 27 (v := .bool true) hF1 hM (by kernel_rfl) (yld_call (f := 14) (args := #[.slice AA80 0 cc80, .slice none 0 0]) hF1 (by kernel_rfl) (fun _ => by kernel_rfl) (fun w hM => same_yes AA80 ([]) cc80 none ([] : List Int) 0 w (ro_of_own (hM.ok 80 _ rfl)) Ro.nil (by decide) (by decide))) fun a1 w hF1 hM => ?_)
                          refine sB 2 [(28, .bool true), (29, .bool true)] hF1 (by kernel_rfl) fun a1 hF1 => ?_
                          refine wl (eL 30 81 0 (v := .agg #[.int .i64 0, .int .i64 0]) hF1 hM (by kernel_rfl) rfl rfl (by kernel_rfl) (by kernel_rfl) fun a1 w hF1 hM => ?_)
                          refine sB 3 [(31, .int .i64 0), (32, .int .i64 0), (33, .agg #[.int .i64 0, .int .i64 0])] hF1 (by kernel_rfl) fun a1 hF1 => ?_
                          refine wl (eM 34 (v := .bool true) hF1 hM (by kernel_rfl) ((yld_eql (C := Mem _ _ _) [0, 0] [0, 0] hF1 rfl (by kernel_rfl) (by kernel_rfl) (by kernel_rfl) rfl (by kernel_rfl) (by kernel_rfl) (by kernel_rfl) rfl rfl).to (bT (by decide))) fun a1 w hF1 hM => ?_)
                          refine sB 2 [(35, .bool true), (10, .bool true)] hF1 (by kernel_rfl) fun a1 hF1 => ?_
                          refine wpList_nil ?_
                          refine hK157 _ _ ?_
                          refine wp_ret ?_
                          refine hR151 _ _ ?_
                          refine ret_of hF1 hM (.tmp rfl (.nil)) ⟨_, rfl, ?_⟩
                          intro a hF
                          refine sB 2 [(282, .bool true), (0, .bool true)] hF (by kernel_rfl) fun a hF => ?_
                          refine wpList_nil ?_
                          refine hK150 _ _ ?_
                          refine wp_ret ?_
                          refine hR0 _ _ ?_
                          refine ret_of hF hM (.tmp rfl (.nil)) ?_
                          exact ⟨rfl, hM.bel⟩

end Go.Proofs.Ytjepnlebmgkomaa
