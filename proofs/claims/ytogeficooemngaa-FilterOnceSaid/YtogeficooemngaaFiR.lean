/-
  The examples of the laws.
-/
import Derived.Test.YtogeficooemngaaFiQ
namespace Go.Proofs.Ytogeficooemngaa
open Go.RowKit
set_option linter.unusedVariables false
set_option linter.unusedSimpArgs false

set_option maxRecDepth 100000 in
set_option maxHeartbeats 8000000 in
theorem wakes_w (w0 : World) :
    Calls Try.prog 9 #[] w0 (Ret w0 (.bool true)) := by
 refine enterK 117 Try.func9 rfl rfl rfl ?_
 intro a hF Q0 hR0 hN0
 have hM := Mem.start w0
 refine wp_seq_k fun K1 hK1 => ?_
 refine wp_region_lit ?_
 refine sB 1 [(0, .bool false)] hF (by kernel_rfl) fun a hF => ?_
 refine wpList_nil ?_
 refine hK1 _ _ ?_
 refine wp_seq_k fun K2 hK2 => ?_
 refine wp_region_lit ?_
 refine wl (sC (f := 23) (args := #[]) hF (by kernel_rfl) rfl (by decide) (by kernel_rfl) (fun _ => by kernel_rfl) ?_)
 refine enterK 4 Try.func23 rfl rfl rfl ?_
 intro a1 hF1 QR3 hR3 hNR3
 refine wp_seq_k fun K4 hK4 => ?_
 refine wp_region_lit ?_
 refine sB 1 [(0, .slice none 0 0)] hF1 (by kernel_rfl) fun a1 hF1 => ?_
 refine wpList_nil ?_
 refine hK4 _ _ ?_
 refine wp_seq_k fun K5 hK5 => ?_
 refine wp_region_lit ?_
 refine sB 2 [(1, .agg #[.int .i64 3, .int .i64 9, .int .i64 7, .int .i64 100, .int .i64 1000, .int .i64 200, .int .i64 250]), (2, .agg #[.int .i64 3, .int .i64 8, .int .i64 6, .int .i64 300, .int .i64 0, .int .i64 0, .int .i64 0])] hF1 (by kernel_rfl) fun a1 hF1 => ?_
 refine wl (eN 3 1 (t := 57) (fun b => .slice (some ⟨b, 0, none⟩) 2 2) #[.int .i64 3, .int .i64 9, .int .i64 7, .int .i64 100, .int .i64 1000, .int .i64 200, .int .i64 250, .int .i64 3, .int .i64 8, .int .i64 6, .int .i64 300, .int .i64 0, .int .i64 0, .int .i64 0] hF1 hM (by kernel_rfl) (fun _ => by kernel_rfl) fun bb1 a1 w hF1 hM => ?_)
 refine sB 1 [(0, .slice (some ⟨bb1, 0, none⟩) 2 2)] hF1 (by kernel_rfl) fun a1 hF1 => ?_
 refine wpList_nil ?_
 refine hK5 _ _ ?_
 refine wp_ret ?_
 refine hR3 _ _ ?_
 refine ret_of hF1 hM (.tmp rfl (.nil)) ⟨_, rfl, ?_⟩
 intro a hF
 refine wl (sC (f := 24) (args := #[]) hF (by kernel_rfl) rfl (by decide) (by kernel_rfl) (fun _ => by kernel_rfl) ?_)
 refine enterK 5 Try.func24 rfl rfl rfl ?_
 intro a1 hF1 QR6 hR6 hNR6
 refine wp_seq_k fun K7 hK7 => ?_
 refine wp_region_lit ?_
 refine sB 1 [(0, .slice none 0 0)] hF1 (by kernel_rfl) fun a1 hF1 => ?_
 refine wpList_nil ?_
 refine hK7 _ _ ?_
 refine wp_seq_k fun K8 hK8 => ?_
 refine wp_region_lit ?_
 refine sB 3 [(1, .agg #[.int .i64 100, .int .i64 1]), (2, .agg #[.int .i64 100, .int .i64 1]), (3, .agg #[.int .i64 5, .int .i64 100, .int .i64 1, .int .i64 100, .int .i64 1])] hF1 (by kernel_rfl) fun a1 hF1 => ?_
 refine wl (eN 4 2 (t := 69) (fun b => .slice (some ⟨b, 0, none⟩) 1 1) #[.int .i64 5, .int .i64 100, .int .i64 1, .int .i64 100, .int .i64 1] hF1 hM (by kernel_rfl) (fun _ => by kernel_rfl) fun bb2 a1 w hF1 hM => ?_)
 refine sB 1 [(0, .slice (some ⟨bb2, 0, none⟩) 1 1)] hF1 (by kernel_rfl) fun a1 hF1 => ?_
 refine wpList_nil ?_
 refine hK8 _ _ ?_
 refine wp_ret ?_
 refine hR6 _ _ ?_
 refine ret_of hF1 hM (.tmp rfl (.nil)) ⟨_, rfl, ?_⟩
 intro a hF
 refine wl (sRo2 3 4 (f := 13) (args := #[.slice (some ⟨bb1, 0, none⟩) 2 2, .slice (some ⟨bb2, 0, none⟩) 1 1]) (mk := (fun x y => .tuple #[.agg #[.slice (some ⟨bb1, 0, none⟩) 2 2, .slice (some ⟨bb2, 0, none⟩) 1 1, .int .i64 (-1000), x, y], .int .i64 0])) (A3 := none) (A4 := none) (n3 := 2) (n4 := 1) (xs := (([-1, -1]).map (Value.int .i64))) (ys := (flatR ([[0, 104857600, 104857600]]))) hF hM (by kernel_rfl) rfl (by decide) (by kernel_rfl) (fun _ => by kernel_rfl) (fiNew_ok (some ⟨bb1, 0, none⟩) [[3, 9, 7, 100, 1000, 200, 250], [3, 8, 6, 300, 0, 0, 0]] 2 (some ⟨bb2, 0, none⟩) [[5, 100, 1, 100, 1]] 1 w (hM.roRow (k := 1) rfl) (show WR 7 ([[3, 9, 7, 100, 1000, 200, 250], [3, 8, 6, 300, 0, 0, 0]] : List (List Int)) from by unfold WR; simp) (hM.roRow (k := 2) rfl) (show WR 5 ([[5, 100, 1, 100, 1]] : List (List Int)) from by unfold WR; simp) (by kernel_rfl) (by kernel_rfl) (by kernel_rfl) rfl rfl) (.inr Free.none_) (.inr Free.none_) fun AA3 cc3 AA4 cc4 a w hF hM => ?_)
 refine sB 3 [(17, .tuple #[.agg #[.slice (some ⟨bb1, 0, none⟩) 2 2, .slice (some ⟨bb2, 0, none⟩) 1 1, .int .i64 (-1000), .slice AA3 2 cc3, .slice AA4 1 cc4], .int .i64 0]), (21, .agg #[.slice (some ⟨bb1, 0, none⟩) 2 2, .slice (some ⟨bb2, 0, none⟩) 1 1, .int .i64 (-1000), .slice AA3 2 cc3, .slice AA4 1 cc4]), (22, .int .i64 0)] hF (by kernel_rfl) fun a hF => ?_
 refine wl (eN 1 5 (t := 27) (fun b => .pointer (some ⟨b, 0, none⟩)) #[.slice none 0 0, .slice none 0 0, .int .i64 0, .slice none 0 0, .slice none 0 0] hF hM (by kernel_rfl) (fun _ => by kernel_rfl) fun bb5 a w hF hM => ?_)
 refine wl (sStore (i := 5) (off := 0) (cs' := #[.slice (some ⟨bb1, 0, none⟩) 2 2, .slice (some ⟨bb2, 0, none⟩) 1 1, .int .i64 (-1000), .slice AA3 2 cc3, .slice AA4 1 cc4]) hF hM (by kernel_rfl) rfl rfl (by kernel_rfl) (by kernel_rfl) rfl (by kernel_rfl) fun w hM => ?_)
 refine sB 1 [(2, .int .i64 0)] hF (by kernel_rfl) fun a hF => ?_
 refine wpList_nil ?_
 refine hK2 _ _ ?_
 refine wp_seq_k fun K9 hK9 => ?_
 refine rF (by kernel_rfl) (by kernel_rfl) (fun S a w => ∃ AA6 : Option Addr, ∃ cc6 : Nat, ∃ AA7 : Option Addr, ∃ cc7 : Nat, Fr 117 [(0, some (.bool false)), (1, some (.pointer (some ⟨bb5, 0, none⟩))), (2, some (.int .i64 0)), (3, (cond (S.getD 8 false) (some (.int .i64 0)) none)), (4, (cond (S.getD 9 false) (some (.int .i64 0)) none)), (23, (cond (S.getD 3 false) (some (.tuple #[.agg #[.slice (some ⟨bb1, 0, none⟩) 2 2, .slice (some ⟨bb2, 0, none⟩) 1 1, .int .i64 220, .slice AA6 2 cc6, .slice AA7 1 cc7], .int .i64 0, .int .i64 0])) none)), (24, (cond (S.getD 0 false) (some (.agg #[.slice (some ⟨bb1, 0, none⟩) 2 2, .slice (some ⟨bb2, 0, none⟩) 1 1, .int .i64 (-1000), .slice AA3 2 cc3, .slice AA4 1 cc4])) none)), (25, (cond (S.getD 1 false) (some (.agg #[.int .i64 9, .int .i64 0, .int .i64 7, .int .i64 100, .int .i64 0])) none)), (26, (cond (S.getD 2 false) (some (.tuple #[.agg #[.slice (some ⟨bb1, 0, none⟩) 2 2, .slice (some ⟨bb2, 0, none⟩) 1 1, .int .i64 220, .slice AA6 2 cc6, .slice AA7 1 cc7], .int .i64 0, .int .i64 0])) none)), (27, (cond (S.getD 4 false) (some (.agg #[.slice (some ⟨bb1, 0, none⟩) 2 2, .slice (some ⟨bb2, 0, none⟩) 1 1, .int .i64 220, .slice AA6 2 cc6, .slice AA7 1 cc7])) none)), (28, (cond (S.getD 5 false) (some (.int .i64 0)) none)), (29, (cond (S.getD 6 false) (some (.int .i64 0)) none))] a ∧ Mem w0.heap.size w0 [(1, some (.row bb1 57 #[.int .i64 3, .int .i64 9, .int .i64 7, .int .i64 100, .int .i64 1000, .int .i64 200, .int .i64 250, .int .i64 3, .int .i64 8, .int .i64 6, .int .i64 300, .int .i64 0, .int .i64 0, .int .i64 0])), (2, some (.row bb2 69 #[.int .i64 5, .int .i64 100, .int .i64 1, .int .i64 100, .int .i64 1])), (3, some (.ro AA3 (([-1, -1]).map (Value.int .i64)))), (4, some (.ro AA4 (flatR ([[0, 104857600, 104857600]])))), (5, (cond (S.getD 7 false) (some (.row bb5 27 #[.slice (some ⟨bb1, 0, none⟩) 2 2, .slice (some ⟨bb2, 0, none⟩) 1 1, .int .i64 220, .slice AA6 2 cc6, .slice AA7 1 cc7])) (some (.row bb5 27 #[.slice (some ⟨bb1, 0, none⟩) 2 2, .slice (some ⟨bb2, 0, none⟩) 1 1, .int .i64 (-1000), .slice AA3 2 cc3, .slice AA4 1 cc4])))), (6, (cond (S.getD 2 false) (some (.ro AA6 (([0, -1]).map (Value.int .i64)))) none)), (7, (cond (S.getD 2 false) (some (.ro AA7 (flatR ([[0, 104857600, 104857600]])))) none))] w) ?_ ?_ ?_
 ·exact ⟨none, 0, none, 0, (((((((((((((Fr.nil hF).co hF (i := 29) (by kernel_rfl)).co hF (i := 28) (by kernel_rfl)).co hF (i := 27) (by kernel_rfl)).co hF (i := 26) (by kernel_rfl)).co hF (i := 25) (by kernel_rfl)).co hF (i := 24) (by kernel_rfl)).co hF (i := 23) (by kernel_rfl)).co hF (i := 4) (by kernel_rfl)).co hF (i := 3) (by kernel_rfl)).co hF (i := 2) (by kernel_rfl)).co hF (i := 1) (by kernel_rfl)).co hF (i := 0) (by kernel_rfl)), hM.drew.sub (((((((Sub.nil.co (k := 7) (by kernel_rfl)).co (k := 6) (by kernel_rfl)).co (k := 5) (by kernel_rfl)).co (k := 4) (by kernel_rfl)).co (k := 3) (by kernel_rfl)).co (k := 2) (by kernel_rfl)).co (k := 1) (by kernel_rfl))⟩
 ·refine stC ?_ (stC ?_ (stC ?_ (stC ?_ (stC ?_ (stC ?_ (stC ?_ (stC ?_ (stC ?_ (stC ?_ (trivial))))))))))
  ·intro s0 s1 s2 s3 s4 s5 s6 s7 s8 s9 hc hi hp a w hS
   obtain rfl : s0 = false := hi
   obtain rfl : s7 = false := hc.f 7 0 (by kernel_rfl) rfl
   obtain ⟨AA6, cc6, AA7, cc7, hF, hM⟩ := hS
   refine eL 24 5 0 (v := .agg #[.slice (some ⟨bb1, 0, none⟩) 2 2, .slice (some ⟨bb2, 0, none⟩) 1 1, .int .i64 (-1000), .slice AA3 2 cc3, .slice AA4 1 cc4]) hF hM (by kernel_rfl) rfl rfl (by kernel_rfl) (by kernel_rfl) fun a w hF hM => ?_
   exact ⟨AA6, cc6, AA7, cc7, ((hF.repl 6 (by kernel_rfl)).cast (by kernel_rfl)), (hM.cast (by kernel_rfl))⟩
  ·intro s0 s1 s2 s3 s4 s5 s6 s7 s8 s9 hc hi hp a w hS
   obtain rfl : s1 = false := hi
   obtain ⟨AA6, cc6, AA7, cc7, hF, hM⟩ := hS
   refine eM 25 (v := .agg #[.int .i64 9, .int .i64 0, .int .i64 7, .int .i64 100, .int .i64 0]) hF hM (by kernel_rfl) (yld_call (f := 25) (args := #[.int .i64 9, .int .i64 7, .int .i64 100]) hF (by kernel_rfl) (fun _ => by kernel_rfl) (fun w hM => frame_w 9 7 100 w)) fun a w hF hM => ?_
   exact ⟨AA6, cc6, AA7, cc7, ((hF.repl 7 (by kernel_rfl)).cast (by kernel_rfl)), (hM.cast (by kernel_rfl))⟩
  ·intro s0 s1 s2 s3 s4 s5 s6 s7 s8 s9 hc hi hp a w hS
   obtain rfl : s2 = false := hi
   obtain rfl : s1 = true := hp 1 (by kernel_rfl)
   obtain rfl : s0 = true := hp 0 (by kernel_rfl)
   obtain rfl : s3 = false := hc.f 3 2 (by kernel_rfl) rfl
   obtain rfl : s4 = false := hc.f 4 3 (by kernel_rfl) rfl
   obtain rfl : s7 = false := hc.f 7 2 (by kernel_rfl) rfl
   obtain ⟨AA6, cc6, AA7, cc7, hF, hM⟩ := hS
   refine sRo2 6 7 (f := 17) (args := #[.agg #[.slice (some ⟨bb1, 0, none⟩) 2 2, .slice (some ⟨bb2, 0, none⟩) 1 1, .int .i64 (-1000), .slice AA3 2 cc3, .slice AA4 1 cc4], .int .i64 3, .agg #[.int .i64 9, .int .i64 0, .int .i64 7, .int .i64 100, .int .i64 0], .int .i64 220]) (mk := (fun x y => .tuple #[.agg #[.slice (some ⟨bb1, 0, none⟩) 2 2, .slice (some ⟨bb2, 0, none⟩) 1 1, .int .i64 220, x, y], .int .i64 0, .int .i64 0])) (A3 := AA3) (A4 := AA4) (n3 := 2) (n4 := 1) (xs := (([0, -1]).map (Value.int .i64))) (ys := (flatR ([[0, 104857600, 104857600]]))) hF hM (by kernel_rfl) rfl (by decide) (by kernel_rfl) (fun _ => by kernel_rfl) (fiPass_ok (some ⟨bb1, 0, none⟩) [[3, 9, 7, 100, 1000, 200, 250], [3, 8, 6, 300, 0, 0, 0]] 2 (some ⟨bb2, 0, none⟩) [[5, 100, 1, 100, 1]] 1 (-1000) AA3 ([-1, -1]) cc3 AA4 ([[0, 104857600, 104857600]]) cc4 3 9 0 7 100 0 220 w (hM.roRow (k := 1) rfl) (show WR 7 ([[3, 9, 7, 100, 1000, 200, 250], [3, 8, 6, 300, 0, 0, 0]] : List (List Int)) from by unfold WR; simp) (hM.roRow (k := 2) rfl) (show WR 5 ([[5, 100, 1, 100, 1]] : List (List Int)) from by unfold WR; simp) (hM.ok 3 _ rfl) (hM.ok 4 _ rfl) (show WR 3 ([[0, 104857600, 104857600]]) from by unfold WR; simp) (by kernel_rfl) ⟨(by omega), (by omega)⟩ (by kernel_rfl) ⟨(by omega), (by omega)⟩ (by kernel_rfl) rfl rfl) (.inr (hM.free (j := 3) rfl)) (.inr (hM.free (j := 4) rfl)) fun AA6 cc6 AA7 cc7 a w hF hM => ?_
   exact ⟨AA6, cc6, AA7, cc7, ((hF.repl 8 (by kernel_rfl)).cast (by kernel_rfl)), (((hM.repl 7 (by kernel_rfl)).repl 5 (by kernel_rfl)).cast (by kernel_rfl))⟩
  ·intro s0 s1 s2 s3 s4 s5 s6 s7 s8 s9 hc hi hp a w hS
   obtain rfl : s3 = false := hi
   obtain rfl : s2 = true := hp 2 (by kernel_rfl)
   obtain ⟨AA6, cc6, AA7, cc7, hF, hM⟩ := hS
   refine eP 23 (v0 := .tuple #[.agg #[.slice (some ⟨bb1, 0, none⟩) 2 2, .slice (some ⟨bb2, 0, none⟩) 1 1, .int .i64 220, .slice AA6 2 cc6, .slice AA7 1 cc7], .int .i64 0, .int .i64 0]) (v := .tuple #[.agg #[.slice (some ⟨bb1, 0, none⟩) 2 2, .slice (some ⟨bb2, 0, none⟩) 1 1, .int .i64 220, .slice AA6 2 cc6, .slice AA7 1 cc7], .int .i64 0, .int .i64 0]) hF (by kernel_rfl) (fun _ => by kernel_rfl) rfl fun a hF => ?_
   exact ⟨AA6, cc6, AA7, cc7, ((hF.repl 5 (by kernel_rfl)).cast (by kernel_rfl)), (hM.cast (by kernel_rfl))⟩
  ·intro s0 s1 s2 s3 s4 s5 s6 s7 s8 s9 hc hi hp a w hS
   obtain rfl : s4 = false := hi
   obtain rfl : s3 = true := hp 3 (by kernel_rfl)
   obtain rfl : s2 = true := hc 3 2 (by kernel_rfl) rfl
   obtain ⟨AA6, cc6, AA7, cc7, hF, hM⟩ := hS
   refine eP 27 (v0 := .agg #[.slice (some ⟨bb1, 0, none⟩) 2 2, .slice (some ⟨bb2, 0, none⟩) 1 1, .int .i64 220, .slice AA6 2 cc6, .slice AA7 1 cc7]) (v := .agg #[.slice (some ⟨bb1, 0, none⟩) 2 2, .slice (some ⟨bb2, 0, none⟩) 1 1, .int .i64 220, .slice AA6 2 cc6, .slice AA7 1 cc7]) hF (by kernel_rfl) (fun _ => by kernel_rfl) rfl fun a hF => ?_
   exact ⟨AA6, cc6, AA7, cc7, ((hF.repl 9 (by kernel_rfl)).cast (by kernel_rfl)), (hM.cast (by kernel_rfl))⟩
  ·intro s0 s1 s2 s3 s4 s5 s6 s7 s8 s9 hc hi hp a w hS
   obtain rfl : s5 = false := hi
   obtain rfl : s3 = true := hp 3 (by kernel_rfl)
   obtain rfl : s2 = true := hc 3 2 (by kernel_rfl) rfl
   obtain ⟨AA6, cc6, AA7, cc7, hF, hM⟩ := hS
   refine eP 28 (v0 := .int .i64 0) (v := .int .i64 0) hF (by kernel_rfl) (fun _ => by kernel_rfl) rfl fun a hF => ?_
   exact ⟨AA6, cc6, AA7, cc7, ((hF.repl 10 (by kernel_rfl)).cast (by kernel_rfl)), (hM.cast (by kernel_rfl))⟩
  ·intro s0 s1 s2 s3 s4 s5 s6 s7 s8 s9 hc hi hp a w hS
   obtain rfl : s6 = false := hi
   obtain rfl : s3 = true := hp 3 (by kernel_rfl)
   obtain rfl : s2 = true := hc 3 2 (by kernel_rfl) rfl
   obtain ⟨AA6, cc6, AA7, cc7, hF, hM⟩ := hS
   refine eP 29 (v0 := .int .i64 0) (v := .int .i64 0) hF (by kernel_rfl) (fun _ => by kernel_rfl) rfl fun a hF => ?_
   exact ⟨AA6, cc6, AA7, cc7, ((hF.repl 11 (by kernel_rfl)).cast (by kernel_rfl)), (hM.cast (by kernel_rfl))⟩
  ·intro s0 s1 s2 s3 s4 s5 s6 s7 s8 s9 hc hi hp a w hS
   obtain rfl : s7 = false := hi
   obtain rfl : s4 = true := hp 4 (by kernel_rfl)
   obtain rfl : s2 = true := hp 2 (by kernel_rfl)
   obtain ⟨AA6, cc6, AA7, cc7, hF, hM⟩ := hS
   refine sStore (i := 5) (off := 0) (cs' := #[.slice (some ⟨bb1, 0, none⟩) 2 2, .slice (some ⟨bb2, 0, none⟩) 1 1, .int .i64 220, .slice AA6 2 cc6, .slice AA7 1 cc7]) hF hM (by kernel_rfl) rfl rfl (by kernel_rfl) (by kernel_rfl) rfl (by kernel_rfl) fun w hM => ?_
   exact ⟨AA6, cc6, AA7, cc7, (hF.cast (by kernel_rfl)), ((hM.repl 4 (by kernel_rfl)).cast (by kernel_rfl))⟩
  ·intro s0 s1 s2 s3 s4 s5 s6 s7 s8 s9 hc hi hp a w hS
   obtain rfl : s8 = false := hi
   obtain rfl : s5 = true := hp 5 (by kernel_rfl)
   obtain ⟨AA6, cc6, AA7, cc7, hF, hM⟩ := hS
   refine eP 3 (v0 := .int .i64 0) (v := .int .i64 0) hF (by kernel_rfl) (fun _ => by kernel_rfl) rfl fun a hF => ?_
   exact ⟨AA6, cc6, AA7, cc7, ((hF.repl 3 (by kernel_rfl)).cast (by kernel_rfl)), (hM.cast (by kernel_rfl))⟩
  ·intro s0 s1 s2 s3 s4 s5 s6 s7 s8 s9 hc hi hp a w hS
   obtain rfl : s9 = false := hi
   obtain rfl : s6 = true := hp 6 (by kernel_rfl)
   obtain ⟨AA6, cc6, AA7, cc7, hF, hM⟩ := hS
   refine eP 4 (v0 := .int .i64 0) (v := .int .i64 0) hF (by kernel_rfl) (fun _ => by kernel_rfl) rfl fun a hF => ?_
   exact ⟨AA6, cc6, AA7, cc7, ((hF.repl 4 (by kernel_rfl)).cast (by kernel_rfl)), (hM.cast (by kernel_rfl))⟩
 ·intro a w hS
  obtain ⟨AA6, cc6, AA7, cc7, hF, hM⟩ := hS
  replace hF : Fr 117 [(0, some (.bool false)), (1, some (.pointer (some ⟨bb5, 0, none⟩))), (2, some (.int .i64 0)), (3, some (.int .i64 0)), (4, some (.int .i64 0)), (23, some (.tuple #[.agg #[.slice (some ⟨bb1, 0, none⟩) 2 2, .slice (some ⟨bb2, 0, none⟩) 1 1, .int .i64 220, .slice AA6 2 cc6, .slice AA7 1 cc7], .int .i64 0, .int .i64 0])), (24, some (.agg #[.slice (some ⟨bb1, 0, none⟩) 2 2, .slice (some ⟨bb2, 0, none⟩) 1 1, .int .i64 (-1000), .slice AA3 2 cc3, .slice AA4 1 cc4])), (25, some (.agg #[.int .i64 9, .int .i64 0, .int .i64 7, .int .i64 100, .int .i64 0])), (26, some (.tuple #[.agg #[.slice (some ⟨bb1, 0, none⟩) 2 2, .slice (some ⟨bb2, 0, none⟩) 1 1, .int .i64 220, .slice AA6 2 cc6, .slice AA7 1 cc7], .int .i64 0, .int .i64 0])), (27, some (.agg #[.slice (some ⟨bb1, 0, none⟩) 2 2, .slice (some ⟨bb2, 0, none⟩) 1 1, .int .i64 220, .slice AA6 2 cc6, .slice AA7 1 cc7])), (28, some (.int .i64 0)), (29, some (.int .i64 0))] a := hF.cast (by kernel_rfl)
  replace hM : Mem w0.heap.size w0 [(1, some (.row bb1 57 #[.int .i64 3, .int .i64 9, .int .i64 7, .int .i64 100, .int .i64 1000, .int .i64 200, .int .i64 250, .int .i64 3, .int .i64 8, .int .i64 6, .int .i64 300, .int .i64 0, .int .i64 0, .int .i64 0])), (2, some (.row bb2 69 #[.int .i64 5, .int .i64 100, .int .i64 1, .int .i64 100, .int .i64 1])), (3, some (.ro AA3 (([-1, -1]).map (Value.int .i64)))), (4, some (.ro AA4 (flatR ([[0, 104857600, 104857600]])))), (5, some (.row bb5 27 #[.slice (some ⟨bb1, 0, none⟩) 2 2, .slice (some ⟨bb2, 0, none⟩) 1 1, .int .i64 220, .slice AA6 2 cc6, .slice AA7 1 cc7])), (6, some (.ro AA6 (([0, -1]).map (Value.int .i64)))), (7, some (.ro AA7 (flatR ([[0, 104857600, 104857600]]))))] w := hM.cast (by kernel_rfl)
  refine hK9 _ _ ?_
  refine wp_seq_k fun K10 hK10 => ?_
  refine rF (by kernel_rfl) (by kernel_rfl) (fun S a w => ∃ AA8 : Option Addr, ∃ cc8 : Nat, ∃ AA9 : Option Addr, ∃ cc9 : Nat, Fr 117 [(0, some (.bool false)), (1, some (.pointer (some ⟨bb5, 0, none⟩))), (2, some (.int .i64 0)), (3, some (.int .i64 0)), (4, some (.int .i64 0)), (5, (cond (S.getD 8 false) (some (.int .i64 4)) none)), (6, (cond (S.getD 9 false) (some (.int .i64 0)) none)), (30, (cond (S.getD 3 false) (some (.tuple #[.agg #[.slice (some ⟨bb1, 0, none⟩) 2 2, .slice (some ⟨bb2, 0, none⟩) 1 1, .int .i64 230, .slice AA8 2 cc8, .slice AA9 1 cc9], .int .i64 4, .int .i64 0])) none)), (31, (cond (S.getD 0 false) (some (.agg #[.slice (some ⟨bb1, 0, none⟩) 2 2, .slice (some ⟨bb2, 0, none⟩) 1 1, .int .i64 220, .slice AA6 2 cc6, .slice AA7 1 cc7])) none)), (32, (cond (S.getD 1 false) (some (.agg #[.int .i64 9, .int .i64 0, .int .i64 7, .int .i64 100, .int .i64 0])) none)), (33, (cond (S.getD 2 false) (some (.tuple #[.agg #[.slice (some ⟨bb1, 0, none⟩) 2 2, .slice (some ⟨bb2, 0, none⟩) 1 1, .int .i64 230, .slice AA8 2 cc8, .slice AA9 1 cc9], .int .i64 4, .int .i64 0])) none)), (34, (cond (S.getD 4 false) (some (.agg #[.slice (some ⟨bb1, 0, none⟩) 2 2, .slice (some ⟨bb2, 0, none⟩) 1 1, .int .i64 230, .slice AA8 2 cc8, .slice AA9 1 cc9])) none)), (35, (cond (S.getD 5 false) (some (.int .i64 4)) none)), (36, (cond (S.getD 6 false) (some (.int .i64 0)) none))] a ∧ Mem w0.heap.size w0 [(1, some (.row bb1 57 #[.int .i64 3, .int .i64 9, .int .i64 7, .int .i64 100, .int .i64 1000, .int .i64 200, .int .i64 250, .int .i64 3, .int .i64 8, .int .i64 6, .int .i64 300, .int .i64 0, .int .i64 0, .int .i64 0])), (2, some (.row bb2 69 #[.int .i64 5, .int .i64 100, .int .i64 1, .int .i64 100, .int .i64 1])), (3, some (.ro AA3 (([-1, -1]).map (Value.int .i64)))), (4, some (.ro AA4 (flatR ([[0, 104857600, 104857600]])))), (5, (cond (S.getD 7 false) (some (.row bb5 27 #[.slice (some ⟨bb1, 0, none⟩) 2 2, .slice (some ⟨bb2, 0, none⟩) 1 1, .int .i64 230, .slice AA8 2 cc8, .slice AA9 1 cc9])) (some (.row bb5 27 #[.slice (some ⟨bb1, 0, none⟩) 2 2, .slice (some ⟨bb2, 0, none⟩) 1 1, .int .i64 220, .slice AA6 2 cc6, .slice AA7 1 cc7])))), (6, some (.ro AA6 (([0, -1]).map (Value.int .i64)))), (7, some (.ro AA7 (flatR ([[0, 104857600, 104857600]])))), (8, (cond (S.getD 2 false) (some (.ro AA8 (([0, -1]).map (Value.int .i64)))) none)), (9, (cond (S.getD 2 false) (some (.ro AA9 (flatR ([[0, 104857600, 104857600]])))) none))] w) ?_ ?_ ?_
  ·exact ⟨none, 0, none, 0, (((((((((((((((Fr.nil hF).co hF (i := 36) (by kernel_rfl)).co hF (i := 35) (by kernel_rfl)).co hF (i := 34) (by kernel_rfl)).co hF (i := 33) (by kernel_rfl)).co hF (i := 32) (by kernel_rfl)).co hF (i := 31) (by kernel_rfl)).co hF (i := 30) (by kernel_rfl)).co hF (i := 6) (by kernel_rfl)).co hF (i := 5) (by kernel_rfl)).co hF (i := 4) (by kernel_rfl)).co hF (i := 3) (by kernel_rfl)).co hF (i := 2) (by kernel_rfl)).co hF (i := 1) (by kernel_rfl)).co hF (i := 0) (by kernel_rfl)), hM.drew.sub (((((((((Sub.nil.co (k := 9) (by kernel_rfl)).co (k := 8) (by kernel_rfl)).co (k := 7) (by kernel_rfl)).co (k := 6) (by kernel_rfl)).co (k := 5) (by kernel_rfl)).co (k := 4) (by kernel_rfl)).co (k := 3) (by kernel_rfl)).co (k := 2) (by kernel_rfl)).co (k := 1) (by kernel_rfl))⟩
  ·refine stC ?_ (stC ?_ (stC ?_ (stC ?_ (stC ?_ (stC ?_ (stC ?_ (stC ?_ (stC ?_ (stC ?_ (trivial))))))))))
   ·intro s0 s1 s2 s3 s4 s5 s6 s7 s8 s9 hc hi hp a w hS
    obtain rfl : s0 = false := hi
    obtain rfl : s7 = false := hc.f 7 0 (by kernel_rfl) rfl
    obtain ⟨AA8, cc8, AA9, cc9, hF, hM⟩ := hS
    refine eL 31 5 0 (v := .agg #[.slice (some ⟨bb1, 0, none⟩) 2 2, .slice (some ⟨bb2, 0, none⟩) 1 1, .int .i64 220, .slice AA6 2 cc6, .slice AA7 1 cc7]) hF hM (by kernel_rfl) rfl rfl (by kernel_rfl) (by kernel_rfl) fun a w hF hM => ?_
    exact ⟨AA8, cc8, AA9, cc9, ((hF.repl 8 (by kernel_rfl)).cast (by kernel_rfl)), (hM.cast (by kernel_rfl))⟩
   ·intro s0 s1 s2 s3 s4 s5 s6 s7 s8 s9 hc hi hp a w hS
    obtain rfl : s1 = false := hi
    obtain ⟨AA8, cc8, AA9, cc9, hF, hM⟩ := hS
    refine eM 32 (v := .agg #[.int .i64 9, .int .i64 0, .int .i64 7, .int .i64 100, .int .i64 0]) hF hM (by kernel_rfl) (yld_call (f := 25) (args := #[.int .i64 9, .int .i64 7, .int .i64 100]) hF (by kernel_rfl) (fun _ => by kernel_rfl) (fun w hM => frame_w 9 7 100 w)) fun a w hF hM => ?_
    exact ⟨AA8, cc8, AA9, cc9, ((hF.repl 9 (by kernel_rfl)).cast (by kernel_rfl)), (hM.cast (by kernel_rfl))⟩
   ·intro s0 s1 s2 s3 s4 s5 s6 s7 s8 s9 hc hi hp a w hS
    obtain rfl : s2 = false := hi
    obtain rfl : s1 = true := hp 1 (by kernel_rfl)
    obtain rfl : s0 = true := hp 0 (by kernel_rfl)
    obtain rfl : s3 = false := hc.f 3 2 (by kernel_rfl) rfl
    obtain rfl : s4 = false := hc.f 4 3 (by kernel_rfl) rfl
    obtain rfl : s7 = false := hc.f 7 2 (by kernel_rfl) rfl
    obtain ⟨AA8, cc8, AA9, cc9, hF, hM⟩ := hS
    refine sRo2 8 9 (f := 17) (args := #[.agg #[.slice (some ⟨bb1, 0, none⟩) 2 2, .slice (some ⟨bb2, 0, none⟩) 1 1, .int .i64 220, .slice AA6 2 cc6, .slice AA7 1 cc7], .int .i64 3, .agg #[.int .i64 9, .int .i64 0, .int .i64 7, .int .i64 100, .int .i64 0], .int .i64 230]) (mk := (fun x y => .tuple #[.agg #[.slice (some ⟨bb1, 0, none⟩) 2 2, .slice (some ⟨bb2, 0, none⟩) 1 1, .int .i64 230, x, y], .int .i64 4, .int .i64 0])) (A3 := AA6) (A4 := AA7) (n3 := 2) (n4 := 1) (xs := (([0, -1]).map (Value.int .i64))) (ys := (flatR ([[0, 104857600, 104857600]]))) hF hM (by kernel_rfl) rfl (by decide) (by kernel_rfl) (fun _ => by kernel_rfl) (fiPass_ok (some ⟨bb1, 0, none⟩) [[3, 9, 7, 100, 1000, 200, 250], [3, 8, 6, 300, 0, 0, 0]] 2 (some ⟨bb2, 0, none⟩) [[5, 100, 1, 100, 1]] 1 220 AA6 ([0, -1]) cc6 AA7 ([[0, 104857600, 104857600]]) cc7 3 9 0 7 100 0 230 w (hM.roRow (k := 1) rfl) (show WR 7 ([[3, 9, 7, 100, 1000, 200, 250], [3, 8, 6, 300, 0, 0, 0]] : List (List Int)) from by unfold WR; simp) (hM.roRow (k := 2) rfl) (show WR 5 ([[5, 100, 1, 100, 1]] : List (List Int)) from by unfold WR; simp) (hM.ok 6 _ rfl) (hM.ok 7 _ rfl) (show WR 3 ([[0, 104857600, 104857600]]) from by unfold WR; simp) (by kernel_rfl) ⟨(by omega), (by omega)⟩ (by kernel_rfl) ⟨(by omega), (by omega)⟩ (by kernel_rfl) rfl rfl) (.inr (hM.free (j := 6) rfl)) (.inr (hM.free (j := 7) rfl)) fun AA8 cc8 AA9 cc9 a w hF hM => ?_
    exact ⟨AA8, cc8, AA9, cc9, ((hF.repl 10 (by kernel_rfl)).cast (by kernel_rfl)), (((hM.repl 9 (by kernel_rfl)).repl 7 (by kernel_rfl)).cast (by kernel_rfl))⟩
   ·intro s0 s1 s2 s3 s4 s5 s6 s7 s8 s9 hc hi hp a w hS
    obtain rfl : s3 = false := hi
    obtain rfl : s2 = true := hp 2 (by kernel_rfl)
    obtain ⟨AA8, cc8, AA9, cc9, hF, hM⟩ := hS
    refine eP 30 (v0 := .tuple #[.agg #[.slice (some ⟨bb1, 0, none⟩) 2 2, .slice (some ⟨bb2, 0, none⟩) 1 1, .int .i64 230, .slice AA8 2 cc8, .slice AA9 1 cc9], .int .i64 4, .int .i64 0]) (v := .tuple #[.agg #[.slice (some ⟨bb1, 0, none⟩) 2 2, .slice (some ⟨bb2, 0, none⟩) 1 1, .int .i64 230, .slice AA8 2 cc8, .slice AA9 1 cc9], .int .i64 4, .int .i64 0]) hF (by kernel_rfl) (fun _ => by kernel_rfl) rfl fun a hF => ?_
    exact ⟨AA8, cc8, AA9, cc9, ((hF.repl 7 (by kernel_rfl)).cast (by kernel_rfl)), (hM.cast (by kernel_rfl))⟩
   ·intro s0 s1 s2 s3 s4 s5 s6 s7 s8 s9 hc hi hp a w hS
    obtain rfl : s4 = false := hi
    obtain rfl : s3 = true := hp 3 (by kernel_rfl)
    obtain rfl : s2 = true := hc 3 2 (by kernel_rfl) rfl
    obtain ⟨AA8, cc8, AA9, cc9, hF, hM⟩ := hS
    refine eP 34 (v0 := .agg #[.slice (some ⟨bb1, 0, none⟩) 2 2, .slice (some ⟨bb2, 0, none⟩) 1 1, .int .i64 230, .slice AA8 2 cc8, .slice AA9 1 cc9]) (v := .agg #[.slice (some ⟨bb1, 0, none⟩) 2 2, .slice (some ⟨bb2, 0, none⟩) 1 1, .int .i64 230, .slice AA8 2 cc8, .slice AA9 1 cc9]) hF (by kernel_rfl) (fun _ => by kernel_rfl) rfl fun a hF => ?_
    exact ⟨AA8, cc8, AA9, cc9, ((hF.repl 11 (by kernel_rfl)).cast (by kernel_rfl)), (hM.cast (by kernel_rfl))⟩
   ·intro s0 s1 s2 s3 s4 s5 s6 s7 s8 s9 hc hi hp a w hS
    obtain rfl : s5 = false := hi
    obtain rfl : s3 = true := hp 3 (by kernel_rfl)
    obtain rfl : s2 = true := hc 3 2 (by kernel_rfl) rfl
    obtain ⟨AA8, cc8, AA9, cc9, hF, hM⟩ := hS
    refine eP 35 (v0 := .int .i64 4) (v := .int .i64 4) hF (by kernel_rfl) (fun _ => by kernel_rfl) rfl fun a hF => ?_
    exact ⟨AA8, cc8, AA9, cc9, ((hF.repl 12 (by kernel_rfl)).cast (by kernel_rfl)), (hM.cast (by kernel_rfl))⟩
   ·intro s0 s1 s2 s3 s4 s5 s6 s7 s8 s9 hc hi hp a w hS
    obtain rfl : s6 = false := hi
    obtain rfl : s3 = true := hp 3 (by kernel_rfl)
    obtain rfl : s2 = true := hc 3 2 (by kernel_rfl) rfl
    obtain ⟨AA8, cc8, AA9, cc9, hF, hM⟩ := hS
    refine eP 36 (v0 := .int .i64 0) (v := .int .i64 0) hF (by kernel_rfl) (fun _ => by kernel_rfl) rfl fun a hF => ?_
    exact ⟨AA8, cc8, AA9, cc9, ((hF.repl 13 (by kernel_rfl)).cast (by kernel_rfl)), (hM.cast (by kernel_rfl))⟩
   ·intro s0 s1 s2 s3 s4 s5 s6 s7 s8 s9 hc hi hp a w hS
    obtain rfl : s7 = false := hi
    obtain rfl : s4 = true := hp 4 (by kernel_rfl)
    obtain rfl : s2 = true := hp 2 (by kernel_rfl)
    obtain ⟨AA8, cc8, AA9, cc9, hF, hM⟩ := hS
    refine sStore (i := 5) (off := 0) (cs' := #[.slice (some ⟨bb1, 0, none⟩) 2 2, .slice (some ⟨bb2, 0, none⟩) 1 1, .int .i64 230, .slice AA8 2 cc8, .slice AA9 1 cc9]) hF hM (by kernel_rfl) rfl rfl (by kernel_rfl) (by kernel_rfl) rfl (by kernel_rfl) fun w hM => ?_
    exact ⟨AA8, cc8, AA9, cc9, (hF.cast (by kernel_rfl)), ((hM.repl 4 (by kernel_rfl)).cast (by kernel_rfl))⟩
   ·intro s0 s1 s2 s3 s4 s5 s6 s7 s8 s9 hc hi hp a w hS
    obtain rfl : s8 = false := hi
    obtain rfl : s5 = true := hp 5 (by kernel_rfl)
    obtain ⟨AA8, cc8, AA9, cc9, hF, hM⟩ := hS
    refine eP 5 (v0 := .int .i64 4) (v := .int .i64 4) hF (by kernel_rfl) (fun _ => by kernel_rfl) rfl fun a hF => ?_
    exact ⟨AA8, cc8, AA9, cc9, ((hF.repl 5 (by kernel_rfl)).cast (by kernel_rfl)), (hM.cast (by kernel_rfl))⟩
   ·intro s0 s1 s2 s3 s4 s5 s6 s7 s8 s9 hc hi hp a w hS
    obtain rfl : s9 = false := hi
    obtain rfl : s6 = true := hp 6 (by kernel_rfl)
    obtain ⟨AA8, cc8, AA9, cc9, hF, hM⟩ := hS
    refine eP 6 (v0 := .int .i64 0) (v := .int .i64 0) hF (by kernel_rfl) (fun _ => by kernel_rfl) rfl fun a hF => ?_
    exact ⟨AA8, cc8, AA9, cc9, ((hF.repl 6 (by kernel_rfl)).cast (by kernel_rfl)), (hM.cast (by kernel_rfl))⟩
  ·intro a w hS
   obtain ⟨AA8, cc8, AA9, cc9, hF, hM⟩ := hS
   replace hF : Fr 117 [(0, some (.bool false)), (1, some (.pointer (some ⟨bb5, 0, none⟩))), (2, some (.int .i64 0)), (3, some (.int .i64 0)), (4, some (.int .i64 0)), (5, some (.int .i64 4)), (6, some (.int .i64 0)), (30, some (.tuple #[.agg #[.slice (some ⟨bb1, 0, none⟩) 2 2, .slice (some ⟨bb2, 0, none⟩) 1 1, .int .i64 230, .slice AA8 2 cc8, .slice AA9 1 cc9], .int .i64 4, .int .i64 0])), (31, some (.agg #[.slice (some ⟨bb1, 0, none⟩) 2 2, .slice (some ⟨bb2, 0, none⟩) 1 1, .int .i64 220, .slice AA6 2 cc6, .slice AA7 1 cc7])), (32, some (.agg #[.int .i64 9, .int .i64 0, .int .i64 7, .int .i64 100, .int .i64 0])), (33, some (.tuple #[.agg #[.slice (some ⟨bb1, 0, none⟩) 2 2, .slice (some ⟨bb2, 0, none⟩) 1 1, .int .i64 230, .slice AA8 2 cc8, .slice AA9 1 cc9], .int .i64 4, .int .i64 0])), (34, some (.agg #[.slice (some ⟨bb1, 0, none⟩) 2 2, .slice (some ⟨bb2, 0, none⟩) 1 1, .int .i64 230, .slice AA8 2 cc8, .slice AA9 1 cc9])), (35, some (.int .i64 4)), (36, some (.int .i64 0))] a := hF.cast (by kernel_rfl)
   replace hM : Mem w0.heap.size w0 [(1, some (.row bb1 57 #[.int .i64 3, .int .i64 9, .int .i64 7, .int .i64 100, .int .i64 1000, .int .i64 200, .int .i64 250, .int .i64 3, .int .i64 8, .int .i64 6, .int .i64 300, .int .i64 0, .int .i64 0, .int .i64 0])), (2, some (.row bb2 69 #[.int .i64 5, .int .i64 100, .int .i64 1, .int .i64 100, .int .i64 1])), (3, some (.ro AA3 (([-1, -1]).map (Value.int .i64)))), (4, some (.ro AA4 (flatR ([[0, 104857600, 104857600]])))), (5, some (.row bb5 27 #[.slice (some ⟨bb1, 0, none⟩) 2 2, .slice (some ⟨bb2, 0, none⟩) 1 1, .int .i64 230, .slice AA8 2 cc8, .slice AA9 1 cc9])), (6, some (.ro AA6 (([0, -1]).map (Value.int .i64)))), (7, some (.ro AA7 (flatR ([[0, 104857600, 104857600]])))), (8, some (.ro AA8 (([0, -1]).map (Value.int .i64)))), (9, some (.ro AA9 (flatR ([[0, 104857600, 104857600]]))))] w := hM.cast (by kernel_rfl)
   refine hK10 _ _ ?_
   refine wp_seq_k fun K11 hK11 => ?_
   refine rF (by kernel_rfl) (by kernel_rfl) (fun S a w => ∃ AA10 : Option Addr, ∃ cc10 : Nat, ∃ AA11 : Option Addr, ∃ cc11 : Nat, Fr 117 [(0, some (.bool false)), (1, some (.pointer (some ⟨bb5, 0, none⟩))), (2, some (.int .i64 0)), (3, some (.int .i64 0)), (4, some (.int .i64 0)), (5, some (.int .i64 4)), (6, some (.int .i64 0)), (7, (cond (S.getD 8 false) (some (.int .i64 0)) none)), (8, (cond (S.getD 9 false) (some (.int .i64 0)) none)), (37, (cond (S.getD 3 false) (some (.tuple #[.agg #[.slice (some ⟨bb1, 0, none⟩) 2 2, .slice (some ⟨bb2, 0, none⟩) 1 1, .int .i64 300, .slice AA10 2 cc10, .slice AA11 1 cc11], .int .i64 0, .int .i64 0])) none)), (38, (cond (S.getD 0 false) (some (.agg #[.slice (some ⟨bb1, 0, none⟩) 2 2, .slice (some ⟨bb2, 0, none⟩) 1 1, .int .i64 230, .slice AA8 2 cc8, .slice AA9 1 cc9])) none)), (39, (cond (S.getD 1 false) (some (.agg #[.int .i64 0, .int .i64 0, .int .i64 0, .int .i64 100, .int .i64 0])) none)), (40, (cond (S.getD 2 false) (some (.tuple #[.agg #[.slice (some ⟨bb1, 0, none⟩) 2 2, .slice (some ⟨bb2, 0, none⟩) 1 1, .int .i64 300, .slice AA10 2 cc10, .slice AA11 1 cc11], .int .i64 0, .int .i64 0])) none)), (41, (cond (S.getD 4 false) (some (.agg #[.slice (some ⟨bb1, 0, none⟩) 2 2, .slice (some ⟨bb2, 0, none⟩) 1 1, .int .i64 300, .slice AA10 2 cc10, .slice AA11 1 cc11])) none)), (42, (cond (S.getD 5 false) (some (.int .i64 0)) none)), (43, (cond (S.getD 6 false) (some (.int .i64 0)) none))] a ∧ Mem w0.heap.size w0 [(1, some (.row bb1 57 #[.int .i64 3, .int .i64 9, .int .i64 7, .int .i64 100, .int .i64 1000, .int .i64 200, .int .i64 250, .int .i64 3, .int .i64 8, .int .i64 6, .int .i64 300, .int .i64 0, .int .i64 0, .int .i64 0])), (2, some (.row bb2 69 #[.int .i64 5, .int .i64 100, .int .i64 1, .int .i64 100, .int .i64 1])), (3, some (.ro AA3 (([-1, -1]).map (Value.int .i64)))), (4, some (.ro AA4 (flatR ([[0, 104857600, 104857600]])))), (5, (cond (S.getD 7 false) (some (.row bb5 27 #[.slice (some ⟨bb1, 0, none⟩) 2 2, .slice (some ⟨bb2, 0, none⟩) 1 1, .int .i64 300, .slice AA10 2 cc10, .slice AA11 1 cc11])) (some (.row bb5 27 #[.slice (some ⟨bb1, 0, none⟩) 2 2, .slice (some ⟨bb2, 0, none⟩) 1 1, .int .i64 230, .slice AA8 2 cc8, .slice AA9 1 cc9])))), (6, some (.ro AA6 (([0, -1]).map (Value.int .i64)))), (7, some (.ro AA7 (flatR ([[0, 104857600, 104857600]])))), (8, some (.ro AA8 (([0, -1]).map (Value.int .i64)))), (9, some (.ro AA9 (flatR ([[0, 104857600, 104857600]])))), (10, (cond (S.getD 2 false) (some (.ro AA10 (([0, -1]).map (Value.int .i64)))) none)), (11, (cond (S.getD 2 false) (some (.ro AA11 (flatR ([[1300, 0, 0]])))) none))] w) ?_ ?_ ?_
   ·exact ⟨none, 0, none, 0, (((((((((((((((((Fr.nil hF).co hF (i := 43) (by kernel_rfl)).co hF (i := 42) (by kernel_rfl)).co hF (i := 41) (by kernel_rfl)).co hF (i := 40) (by kernel_rfl)).co hF (i := 39) (by kernel_rfl)).co hF (i := 38) (by kernel_rfl)).co hF (i := 37) (by kernel_rfl)).co hF (i := 8) (by kernel_rfl)).co hF (i := 7) (by kernel_rfl)).co hF (i := 6) (by kernel_rfl)).co hF (i := 5) (by kernel_rfl)).co hF (i := 4) (by kernel_rfl)).co hF (i := 3) (by kernel_rfl)).co hF (i := 2) (by kernel_rfl)).co hF (i := 1) (by kernel_rfl)).co hF (i := 0) (by kernel_rfl)), hM.drew.sub (((((((((((Sub.nil.co (k := 11) (by kernel_rfl)).co (k := 10) (by kernel_rfl)).co (k := 9) (by kernel_rfl)).co (k := 8) (by kernel_rfl)).co (k := 7) (by kernel_rfl)).co (k := 6) (by kernel_rfl)).co (k := 5) (by kernel_rfl)).co (k := 4) (by kernel_rfl)).co (k := 3) (by kernel_rfl)).co (k := 2) (by kernel_rfl)).co (k := 1) (by kernel_rfl))⟩
   ·refine stC ?_ (stC ?_ (stC ?_ (stC ?_ (stC ?_ (stC ?_ (stC ?_ (stC ?_ (stC ?_ (stC ?_ (trivial))))))))))
    ·intro s0 s1 s2 s3 s4 s5 s6 s7 s8 s9 hc hi hp a w hS
     obtain rfl : s0 = false := hi
     obtain rfl : s7 = false := hc.f 7 0 (by kernel_rfl) rfl
     obtain ⟨AA10, cc10, AA11, cc11, hF, hM⟩ := hS
     refine eL 38 5 0 (v := .agg #[.slice (some ⟨bb1, 0, none⟩) 2 2, .slice (some ⟨bb2, 0, none⟩) 1 1, .int .i64 230, .slice AA8 2 cc8, .slice AA9 1 cc9]) hF hM (by kernel_rfl) rfl rfl (by kernel_rfl) (by kernel_rfl) fun a w hF hM => ?_
     exact ⟨AA10, cc10, AA11, cc11, ((hF.repl 10 (by kernel_rfl)).cast (by kernel_rfl)), (hM.cast (by kernel_rfl))⟩
    ·intro s0 s1 s2 s3 s4 s5 s6 s7 s8 s9 hc hi hp a w hS
     obtain rfl : s1 = false := hi
     obtain ⟨AA10, cc10, AA11, cc11, hF, hM⟩ := hS
     refine eM 39 (v := .agg #[.int .i64 0, .int .i64 0, .int .i64 0, .int .i64 100, .int .i64 0]) hF hM (by kernel_rfl) (yld_call (f := 25) (args := #[.int .i64 0, .int .i64 0, .int .i64 100]) hF (by kernel_rfl) (fun _ => by kernel_rfl) (fun w hM => frame_w 0 0 100 w)) fun a w hF hM => ?_
     exact ⟨AA10, cc10, AA11, cc11, ((hF.repl 11 (by kernel_rfl)).cast (by kernel_rfl)), (hM.cast (by kernel_rfl))⟩
    ·intro s0 s1 s2 s3 s4 s5 s6 s7 s8 s9 hc hi hp a w hS
     obtain rfl : s2 = false := hi
     obtain rfl : s1 = true := hp 1 (by kernel_rfl)
     obtain rfl : s0 = true := hp 0 (by kernel_rfl)
     obtain rfl : s3 = false := hc.f 3 2 (by kernel_rfl) rfl
     obtain rfl : s4 = false := hc.f 4 3 (by kernel_rfl) rfl
     obtain rfl : s7 = false := hc.f 7 2 (by kernel_rfl) rfl
     obtain ⟨AA10, cc10, AA11, cc11, hF, hM⟩ := hS
     refine sRo2 10 11 (f := 17) (args := #[.agg #[.slice (some ⟨bb1, 0, none⟩) 2 2, .slice (some ⟨bb2, 0, none⟩) 1 1, .int .i64 230, .slice AA8 2 cc8, .slice AA9 1 cc9], .int .i64 5, .agg #[.int .i64 0, .int .i64 0, .int .i64 0, .int .i64 100, .int .i64 0], .int .i64 300]) (mk := (fun x y => .tuple #[.agg #[.slice (some ⟨bb1, 0, none⟩) 2 2, .slice (some ⟨bb2, 0, none⟩) 1 1, .int .i64 300, x, y], .int .i64 0, .int .i64 0])) (A3 := AA8) (A4 := AA9) (n3 := 2) (n4 := 1) (xs := (([0, -1]).map (Value.int .i64))) (ys := (flatR ([[1300, 0, 0]]))) hF hM (by kernel_rfl) rfl (by decide) (by kernel_rfl) (fun _ => by kernel_rfl) (fiPass_ok (some ⟨bb1, 0, none⟩) [[3, 9, 7, 100, 1000, 200, 250], [3, 8, 6, 300, 0, 0, 0]] 2 (some ⟨bb2, 0, none⟩) [[5, 100, 1, 100, 1]] 1 230 AA8 ([0, -1]) cc8 AA9 ([[0, 104857600, 104857600]]) cc9 5 0 0 0 100 0 300 w (hM.roRow (k := 1) rfl) (show WR 7 ([[3, 9, 7, 100, 1000, 200, 250], [3, 8, 6, 300, 0, 0, 0]] : List (List Int)) from by unfold WR; simp) (hM.roRow (k := 2) rfl) (show WR 5 ([[5, 100, 1, 100, 1]] : List (List Int)) from by unfold WR; simp) (hM.ok 8 _ rfl) (hM.ok 9 _ rfl) (show WR 3 ([[0, 104857600, 104857600]]) from by unfold WR; simp) (by kernel_rfl) ⟨(by omega), (by omega)⟩ (by kernel_rfl) ⟨(by omega), (by omega)⟩ (by kernel_rfl) rfl rfl) (.inr (hM.free (j := 8) rfl)) (.inr (hM.free (j := 9) rfl)) fun AA10 cc10 AA11 cc11 a w hF hM => ?_
     exact ⟨AA10, cc10, AA11, cc11, ((hF.repl 12 (by kernel_rfl)).cast (by kernel_rfl)), (((hM.repl 11 (by kernel_rfl)).repl 9 (by kernel_rfl)).cast (by kernel_rfl))⟩
    ·intro s0 s1 s2 s3 s4 s5 s6 s7 s8 s9 hc hi hp a w hS
     obtain rfl : s3 = false := hi
     obtain rfl : s2 = true := hp 2 (by kernel_rfl)
     obtain ⟨AA10, cc10, AA11, cc11, hF, hM⟩ := hS
     refine eP 37 (v0 := .tuple #[.agg #[.slice (some ⟨bb1, 0, none⟩) 2 2, .slice (some ⟨bb2, 0, none⟩) 1 1, .int .i64 300, .slice AA10 2 cc10, .slice AA11 1 cc11], .int .i64 0, .int .i64 0]) (v := .tuple #[.agg #[.slice (some ⟨bb1, 0, none⟩) 2 2, .slice (some ⟨bb2, 0, none⟩) 1 1, .int .i64 300, .slice AA10 2 cc10, .slice AA11 1 cc11], .int .i64 0, .int .i64 0]) hF (by kernel_rfl) (fun _ => by kernel_rfl) rfl fun a hF => ?_
     exact ⟨AA10, cc10, AA11, cc11, ((hF.repl 9 (by kernel_rfl)).cast (by kernel_rfl)), (hM.cast (by kernel_rfl))⟩
    ·intro s0 s1 s2 s3 s4 s5 s6 s7 s8 s9 hc hi hp a w hS
     obtain rfl : s4 = false := hi
     obtain rfl : s3 = true := hp 3 (by kernel_rfl)
     obtain rfl : s2 = true := hc 3 2 (by kernel_rfl) rfl
     obtain ⟨AA10, cc10, AA11, cc11, hF, hM⟩ := hS
     refine eP 41 (v0 := .agg #[.slice (some ⟨bb1, 0, none⟩) 2 2, .slice (some ⟨bb2, 0, none⟩) 1 1, .int .i64 300, .slice AA10 2 cc10, .slice AA11 1 cc11]) (v := .agg #[.slice (some ⟨bb1, 0, none⟩) 2 2, .slice (some ⟨bb2, 0, none⟩) 1 1, .int .i64 300, .slice AA10 2 cc10, .slice AA11 1 cc11]) hF (by kernel_rfl) (fun _ => by kernel_rfl) rfl fun a hF => ?_
     exact ⟨AA10, cc10, AA11, cc11, ((hF.repl 13 (by kernel_rfl)).cast (by kernel_rfl)), (hM.cast (by kernel_rfl))⟩
    ·intro s0 s1 s2 s3 s4 s5 s6 s7 s8 s9 hc hi hp a w hS
     obtain rfl : s5 = false := hi
     obtain rfl : s3 = true := hp 3 (by kernel_rfl)
     obtain rfl : s2 = true := hc 3 2 (by kernel_rfl) rfl
     obtain ⟨AA10, cc10, AA11, cc11, hF, hM⟩ := hS
     refine eP 42 (v0 := .int .i64 0) (v := .int .i64 0) hF (by kernel_rfl) (fun _ => by kernel_rfl) rfl fun a hF => ?_
     exact ⟨AA10, cc10, AA11, cc11, ((hF.repl 14 (by kernel_rfl)).cast (by kernel_rfl)), (hM.cast (by kernel_rfl))⟩
    ·intro s0 s1 s2 s3 s4 s5 s6 s7 s8 s9 hc hi hp a w hS
     obtain rfl : s6 = false := hi
     obtain rfl : s3 = true := hp 3 (by kernel_rfl)
     obtain rfl : s2 = true := hc 3 2 (by kernel_rfl) rfl
     obtain ⟨AA10, cc10, AA11, cc11, hF, hM⟩ := hS
     refine eP 43 (v0 := .int .i64 0) (v := .int .i64 0) hF (by kernel_rfl) (fun _ => by kernel_rfl) rfl fun a hF => ?_
     exact ⟨AA10, cc10, AA11, cc11, ((hF.repl 15 (by kernel_rfl)).cast (by kernel_rfl)), (hM.cast (by kernel_rfl))⟩
    ·intro s0 s1 s2 s3 s4 s5 s6 s7 s8 s9 hc hi hp a w hS
     obtain rfl : s7 = false := hi
     obtain rfl : s4 = true := hp 4 (by kernel_rfl)
     obtain rfl : s2 = true := hp 2 (by kernel_rfl)
     obtain ⟨AA10, cc10, AA11, cc11, hF, hM⟩ := hS
     refine sStore (i := 5) (off := 0) (cs' := #[.slice (some ⟨bb1, 0, none⟩) 2 2, .slice (some ⟨bb2, 0, none⟩) 1 1, .int .i64 300, .slice AA10 2 cc10, .slice AA11 1 cc11]) hF hM (by kernel_rfl) rfl rfl (by kernel_rfl) (by kernel_rfl) rfl (by kernel_rfl) fun w hM => ?_
     exact ⟨AA10, cc10, AA11, cc11, (hF.cast (by kernel_rfl)), ((hM.repl 4 (by kernel_rfl)).cast (by kernel_rfl))⟩
    ·intro s0 s1 s2 s3 s4 s5 s6 s7 s8 s9 hc hi hp a w hS
     obtain rfl : s8 = false := hi
     obtain rfl : s5 = true := hp 5 (by kernel_rfl)
     obtain ⟨AA10, cc10, AA11, cc11, hF, hM⟩ := hS
     refine eP 7 (v0 := .int .i64 0) (v := .int .i64 0) hF (by kernel_rfl) (fun _ => by kernel_rfl) rfl fun a hF => ?_
     exact ⟨AA10, cc10, AA11, cc11, ((hF.repl 7 (by kernel_rfl)).cast (by kernel_rfl)), (hM.cast (by kernel_rfl))⟩
    ·intro s0 s1 s2 s3 s4 s5 s6 s7 s8 s9 hc hi hp a w hS
     obtain rfl : s9 = false := hi
     obtain rfl : s6 = true := hp 6 (by kernel_rfl)
     obtain ⟨AA10, cc10, AA11, cc11, hF, hM⟩ := hS
     refine eP 8 (v0 := .int .i64 0) (v := .int .i64 0) hF (by kernel_rfl) (fun _ => by kernel_rfl) rfl fun a hF => ?_
     exact ⟨AA10, cc10, AA11, cc11, ((hF.repl 8 (by kernel_rfl)).cast (by kernel_rfl)), (hM.cast (by kernel_rfl))⟩
   ·intro a w hS
    obtain ⟨AA10, cc10, AA11, cc11, hF, hM⟩ := hS
    replace hF : Fr 117 [(0, some (.bool false)), (1, some (.pointer (some ⟨bb5, 0, none⟩))), (2, some (.int .i64 0)), (3, some (.int .i64 0)), (4, some (.int .i64 0)), (5, some (.int .i64 4)), (6, some (.int .i64 0)), (7, some (.int .i64 0)), (8, some (.int .i64 0)), (37, some (.tuple #[.agg #[.slice (some ⟨bb1, 0, none⟩) 2 2, .slice (some ⟨bb2, 0, none⟩) 1 1, .int .i64 300, .slice AA10 2 cc10, .slice AA11 1 cc11], .int .i64 0, .int .i64 0])), (38, some (.agg #[.slice (some ⟨bb1, 0, none⟩) 2 2, .slice (some ⟨bb2, 0, none⟩) 1 1, .int .i64 230, .slice AA8 2 cc8, .slice AA9 1 cc9])), (39, some (.agg #[.int .i64 0, .int .i64 0, .int .i64 0, .int .i64 100, .int .i64 0])), (40, some (.tuple #[.agg #[.slice (some ⟨bb1, 0, none⟩) 2 2, .slice (some ⟨bb2, 0, none⟩) 1 1, .int .i64 300, .slice AA10 2 cc10, .slice AA11 1 cc11], .int .i64 0, .int .i64 0])), (41, some (.agg #[.slice (some ⟨bb1, 0, none⟩) 2 2, .slice (some ⟨bb2, 0, none⟩) 1 1, .int .i64 300, .slice AA10 2 cc10, .slice AA11 1 cc11])), (42, some (.int .i64 0)), (43, some (.int .i64 0))] a := hF.cast (by kernel_rfl)
    replace hM : Mem w0.heap.size w0 [(1, some (.row bb1 57 #[.int .i64 3, .int .i64 9, .int .i64 7, .int .i64 100, .int .i64 1000, .int .i64 200, .int .i64 250, .int .i64 3, .int .i64 8, .int .i64 6, .int .i64 300, .int .i64 0, .int .i64 0, .int .i64 0])), (2, some (.row bb2 69 #[.int .i64 5, .int .i64 100, .int .i64 1, .int .i64 100, .int .i64 1])), (3, some (.ro AA3 (([-1, -1]).map (Value.int .i64)))), (4, some (.ro AA4 (flatR ([[0, 104857600, 104857600]])))), (5, some (.row bb5 27 #[.slice (some ⟨bb1, 0, none⟩) 2 2, .slice (some ⟨bb2, 0, none⟩) 1 1, .int .i64 300, .slice AA10 2 cc10, .slice AA11 1 cc11])), (6, some (.ro AA6 (([0, -1]).map (Value.int .i64)))), (7, some (.ro AA7 (flatR ([[0, 104857600, 104857600]])))), (8, some (.ro AA8 (([0, -1]).map (Value.int .i64)))), (9, some (.ro AA9 (flatR ([[0, 104857600, 104857600]])))), (10, some (.ro AA10 (([0, -1]).map (Value.int .i64)))), (11, some (.ro AA11 (flatR ([[1300, 0, 0]]))))] w := hM.cast (by kernel_rfl)
    refine hK11 _ _ ?_
    refine wp_seq_k fun K12 hK12 => ?_
    refine rF (by kernel_rfl) (by kernel_rfl) (fun S a w => ∃ AA12 : Option Addr, ∃ cc12 : Nat, ∃ AA13 : Option Addr, ∃ cc13 : Nat, ∃ bb14 : Nat, Fr 117 [(0, some (.bool false)), (1, some (.pointer (some ⟨bb5, 0, none⟩))), (2, some (.int .i64 0)), (3, some (.int .i64 0)), (4, some (.int .i64 0)), (5, some (.int .i64 4)), (6, some (.int .i64 0)), (7, some (.int .i64 0)), (8, some (.int .i64 0)), (9, (cond (S.getD 7 false) (some (.pointer (some ⟨bb14, 0, none⟩))) none)), (10, (cond (S.getD 9 false) (some (.int .i64 5)) none)), (11, (cond (S.getD 10 false) (some (.int .i64 0)) none)), (44, (cond (S.getD 3 false) (some (.tuple #[.agg #[.slice (some ⟨bb1, 0, none⟩) 2 2, .slice (some ⟨bb2, 0, none⟩) 1 1, .int .i64 300, .slice AA12 2 cc12, .slice AA13 1 cc13], .int .i64 5, .int .i64 0])) none)), (45, (cond (S.getD 0 false) (some (.agg #[.slice (some ⟨bb1, 0, none⟩) 2 2, .slice (some ⟨bb2, 0, none⟩) 1 1, .int .i64 300, .slice AA10 2 cc10, .slice AA11 1 cc11])) none)), (46, (cond (S.getD 1 false) (some (.agg #[.int .i64 0, .int .i64 0, .int .i64 0, .int .i64 100, .int .i64 0])) none)), (47, (cond (S.getD 2 false) (some (.tuple #[.agg #[.slice (some ⟨bb1, 0, none⟩) 2 2, .slice (some ⟨bb2, 0, none⟩) 1 1, .int .i64 300, .slice AA12 2 cc12, .slice AA13 1 cc13], .int .i64 5, .int .i64 0])) none)), (48, (cond (S.getD 4 false) (some (.agg #[.slice (some ⟨bb1, 0, none⟩) 2 2, .slice (some ⟨bb2, 0, none⟩) 1 1, .int .i64 300, .slice AA12 2 cc12, .slice AA13 1 cc13])) none)), (49, (cond (S.getD 5 false) (some (.int .i64 5)) none)), (50, (cond (S.getD 6 false) (some (.int .i64 0)) none))] a ∧ Mem w0.heap.size w0 [(1, some (.row bb1 57 #[.int .i64 3, .int .i64 9, .int .i64 7, .int .i64 100, .int .i64 1000, .int .i64 200, .int .i64 250, .int .i64 3, .int .i64 8, .int .i64 6, .int .i64 300, .int .i64 0, .int .i64 0, .int .i64 0])), (2, some (.row bb2 69 #[.int .i64 5, .int .i64 100, .int .i64 1, .int .i64 100, .int .i64 1])), (3, some (.ro AA3 (([-1, -1]).map (Value.int .i64)))), (4, some (.ro AA4 (flatR ([[0, 104857600, 104857600]])))), (5, some (.row bb5 27 #[.slice (some ⟨bb1, 0, none⟩) 2 2, .slice (some ⟨bb2, 0, none⟩) 1 1, .int .i64 300, .slice AA10 2 cc10, .slice AA11 1 cc11])), (6, some (.ro AA6 (([0, -1]).map (Value.int .i64)))), (7, some (.ro AA7 (flatR ([[0, 104857600, 104857600]])))), (8, some (.ro AA8 (([0, -1]).map (Value.int .i64)))), (9, some (.ro AA9 (flatR ([[0, 104857600, 104857600]])))), (10, some (.ro AA10 (([0, -1]).map (Value.int .i64)))), (11, some (.ro AA11 (flatR ([[1300, 0, 0]])))), (12, (cond (S.getD 2 false) (some (.ro AA12 (([0, -1]).map (Value.int .i64)))) none)), (13, (cond (S.getD 2 false) (some (.ro AA13 (flatR ([[1300, 0, 0]])))) none)), (14, (cond (S.getD 8 false) (some (.row bb14 27 #[.slice (some ⟨bb1, 0, none⟩) 2 2, .slice (some ⟨bb2, 0, none⟩) 1 1, .int .i64 300, .slice AA12 2 cc12, .slice AA13 1 cc13])) (cond (S.getD 7 false) (some (.row bb14 27 #[.slice none 0 0, .slice none 0 0, .int .i64 0, .slice none 0 0, .slice none 0 0])) none)))] w) ?_ ?_ ?_
    ·exact ⟨none, 0, none, 0, 0, ((((((((((((((((((((Fr.nil hF).co hF (i := 50) (by kernel_rfl)).co hF (i := 49) (by kernel_rfl)).co hF (i := 48) (by kernel_rfl)).co hF (i := 47) (by kernel_rfl)).co hF (i := 46) (by kernel_rfl)).co hF (i := 45) (by kernel_rfl)).co hF (i := 44) (by kernel_rfl)).co hF (i := 11) (by kernel_rfl)).co hF (i := 10) (by kernel_rfl)).co hF (i := 9) (by kernel_rfl)).co hF (i := 8) (by kernel_rfl)).co hF (i := 7) (by kernel_rfl)).co hF (i := 6) (by kernel_rfl)).co hF (i := 5) (by kernel_rfl)).co hF (i := 4) (by kernel_rfl)).co hF (i := 3) (by kernel_rfl)).co hF (i := 2) (by kernel_rfl)).co hF (i := 1) (by kernel_rfl)).co hF (i := 0) (by kernel_rfl)), hM.drew.sub ((((((((((((((Sub.nil.co (k := 14) (by kernel_rfl)).co (k := 13) (by kernel_rfl)).co (k := 12) (by kernel_rfl)).co (k := 11) (by kernel_rfl)).co (k := 10) (by kernel_rfl)).co (k := 9) (by kernel_rfl)).co (k := 8) (by kernel_rfl)).co (k := 7) (by kernel_rfl)).co (k := 6) (by kernel_rfl)).co (k := 5) (by kernel_rfl)).co (k := 4) (by kernel_rfl)).co (k := 3) (by kernel_rfl)).co (k := 2) (by kernel_rfl)).co (k := 1) (by kernel_rfl))⟩
    ·refine stC ?_ (stC ?_ (stC ?_ (stC ?_ (stC ?_ (stC ?_ (stC ?_ (stC ?_ (stC ?_ (stC ?_ (stC ?_ (trivial)))))))))))
     ·intro s0 s1 s2 s3 s4 s5 s6 s7 s8 s9 s10 hc hi hp a w hS
      obtain rfl : s0 = false := hi
      obtain ⟨AA12, cc12, AA13, cc13, bb14, hF, hM⟩ := hS
      refine eL 45 5 0 (v := .agg #[.slice (some ⟨bb1, 0, none⟩) 2 2, .slice (some ⟨bb2, 0, none⟩) 1 1, .int .i64 300, .slice AA10 2 cc10, .slice AA11 1 cc11]) hF hM (by kernel_rfl) rfl rfl (by kernel_rfl) (by kernel_rfl) fun a w hF hM => ?_
      exact ⟨AA12, cc12, AA13, cc13, bb14, ((hF.repl 13 (by kernel_rfl)).cast (by kernel_rfl)), (hM.cast (by kernel_rfl))⟩
     ·intro s0 s1 s2 s3 s4 s5 s6 s7 s8 s9 s10 hc hi hp a w hS
      obtain rfl : s1 = false := hi
      obtain ⟨AA12, cc12, AA13, cc13, bb14, hF, hM⟩ := hS
      refine eM 46 (v := .agg #[.int .i64 0, .int .i64 0, .int .i64 0, .int .i64 100, .int .i64 0]) hF hM (by kernel_rfl) (yld_call (f := 25) (args := #[.int .i64 0, .int .i64 0, .int .i64 100]) hF (by kernel_rfl) (fun _ => by kernel_rfl) (fun w hM => frame_w 0 0 100 w)) fun a w hF hM => ?_
      exact ⟨AA12, cc12, AA13, cc13, bb14, ((hF.repl 14 (by kernel_rfl)).cast (by kernel_rfl)), (hM.cast (by kernel_rfl))⟩
     ·intro s0 s1 s2 s3 s4 s5 s6 s7 s8 s9 s10 hc hi hp a w hS
      obtain rfl : s2 = false := hi
      obtain rfl : s1 = true := hp 1 (by kernel_rfl)
      obtain rfl : s0 = true := hp 0 (by kernel_rfl)
      obtain rfl : s3 = false := hc.f 3 2 (by kernel_rfl) rfl
      obtain rfl : s4 = false := hc.f 4 3 (by kernel_rfl) rfl
      obtain rfl : s8 = false := hc.f 8 2 (by kernel_rfl) rfl
      obtain ⟨AA12, cc12, AA13, cc13, bb14, hF, hM⟩ := hS
      refine sRo2 12 13 (f := 17) (args := #[.agg #[.slice (some ⟨bb1, 0, none⟩) 2 2, .slice (some ⟨bb2, 0, none⟩) 1 1, .int .i64 300, .slice AA10 2 cc10, .slice AA11 1 cc11], .int .i64 5, .agg #[.int .i64 0, .int .i64 0, .int .i64 0, .int .i64 100, .int .i64 0], .int .i64 300]) (mk := (fun x y => .tuple #[.agg #[.slice (some ⟨bb1, 0, none⟩) 2 2, .slice (some ⟨bb2, 0, none⟩) 1 1, .int .i64 300, x, y], .int .i64 5, .int .i64 0])) (A3 := AA10) (A4 := AA11) (n3 := 2) (n4 := 1) (xs := (([0, -1]).map (Value.int .i64))) (ys := (flatR ([[1300, 0, 0]]))) hF hM (by kernel_rfl) rfl (by decide) (by kernel_rfl) (fun _ => by kernel_rfl) (fiPass_ok (some ⟨bb1, 0, none⟩) [[3, 9, 7, 100, 1000, 200, 250], [3, 8, 6, 300, 0, 0, 0]] 2 (some ⟨bb2, 0, none⟩) [[5, 100, 1, 100, 1]] 1 300 AA10 ([0, -1]) cc10 AA11 ([[1300, 0, 0]]) cc11 5 0 0 0 100 0 300 w (hM.roRow (k := 1) rfl) (show WR 7 ([[3, 9, 7, 100, 1000, 200, 250], [3, 8, 6, 300, 0, 0, 0]] : List (List Int)) from by unfold WR; simp) (hM.roRow (k := 2) rfl) (show WR 5 ([[5, 100, 1, 100, 1]] : List (List Int)) from by unfold WR; simp) (hM.ok 10 _ rfl) (hM.ok 11 _ rfl) (show WR 3 ([[1300, 0, 0]]) from by unfold WR; simp) (by kernel_rfl) ⟨(by omega), (by omega)⟩ (by kernel_rfl) ⟨(by omega), (by omega)⟩ (by kernel_rfl) rfl rfl) (.inr (hM.free (j := 10) rfl)) (.inr (hM.free (j := 11) rfl)) fun AA12 cc12 AA13 cc13 a w hF hM => ?_
      exact ⟨AA12, cc12, AA13, cc13, bb14, ((hF.repl 15 (by kernel_rfl)).cast (by kernel_rfl)), (((hM.repl 13 (by kernel_rfl)).repl 11 (by kernel_rfl)).cast (by kernel_rfl))⟩
     ·intro s0 s1 s2 s3 s4 s5 s6 s7 s8 s9 s10 hc hi hp a w hS
      obtain rfl : s3 = false := hi
      obtain rfl : s2 = true := hp 2 (by kernel_rfl)
      obtain ⟨AA12, cc12, AA13, cc13, bb14, hF, hM⟩ := hS
      refine eP 44 (v0 := .tuple #[.agg #[.slice (some ⟨bb1, 0, none⟩) 2 2, .slice (some ⟨bb2, 0, none⟩) 1 1, .int .i64 300, .slice AA12 2 cc12, .slice AA13 1 cc13], .int .i64 5, .int .i64 0]) (v := .tuple #[.agg #[.slice (some ⟨bb1, 0, none⟩) 2 2, .slice (some ⟨bb2, 0, none⟩) 1 1, .int .i64 300, .slice AA12 2 cc12, .slice AA13 1 cc13], .int .i64 5, .int .i64 0]) hF (by kernel_rfl) (fun _ => by kernel_rfl) rfl fun a hF => ?_
      exact ⟨AA12, cc12, AA13, cc13, bb14, ((hF.repl 12 (by kernel_rfl)).cast (by kernel_rfl)), (hM.cast (by kernel_rfl))⟩
     ·intro s0 s1 s2 s3 s4 s5 s6 s7 s8 s9 s10 hc hi hp a w hS
      obtain rfl : s4 = false := hi
      obtain rfl : s3 = true := hp 3 (by kernel_rfl)
      obtain rfl : s2 = true := hc 3 2 (by kernel_rfl) rfl
      obtain ⟨AA12, cc12, AA13, cc13, bb14, hF, hM⟩ := hS
      refine eP 48 (v0 := .agg #[.slice (some ⟨bb1, 0, none⟩) 2 2, .slice (some ⟨bb2, 0, none⟩) 1 1, .int .i64 300, .slice AA12 2 cc12, .slice AA13 1 cc13]) (v := .agg #[.slice (some ⟨bb1, 0, none⟩) 2 2, .slice (some ⟨bb2, 0, none⟩) 1 1, .int .i64 300, .slice AA12 2 cc12, .slice AA13 1 cc13]) hF (by kernel_rfl) (fun _ => by kernel_rfl) rfl fun a hF => ?_
      exact ⟨AA12, cc12, AA13, cc13, bb14, ((hF.repl 16 (by kernel_rfl)).cast (by kernel_rfl)), (hM.cast (by kernel_rfl))⟩
     ·intro s0 s1 s2 s3 s4 s5 s6 s7 s8 s9 s10 hc hi hp a w hS
      obtain rfl : s5 = false := hi
      obtain rfl : s3 = true := hp 3 (by kernel_rfl)
      obtain rfl : s2 = true := hc 3 2 (by kernel_rfl) rfl
      obtain ⟨AA12, cc12, AA13, cc13, bb14, hF, hM⟩ := hS
      refine eP 49 (v0 := .int .i64 5) (v := .int .i64 5) hF (by kernel_rfl) (fun _ => by kernel_rfl) rfl fun a hF => ?_
      exact ⟨AA12, cc12, AA13, cc13, bb14, ((hF.repl 17 (by kernel_rfl)).cast (by kernel_rfl)), (hM.cast (by kernel_rfl))⟩
     ·intro s0 s1 s2 s3 s4 s5 s6 s7 s8 s9 s10 hc hi hp a w hS
      obtain rfl : s6 = false := hi
      obtain rfl : s3 = true := hp 3 (by kernel_rfl)
      obtain rfl : s2 = true := hc 3 2 (by kernel_rfl) rfl
      obtain ⟨AA12, cc12, AA13, cc13, bb14, hF, hM⟩ := hS
      refine eP 50 (v0 := .int .i64 0) (v := .int .i64 0) hF (by kernel_rfl) (fun _ => by kernel_rfl) rfl fun a hF => ?_
      exact ⟨AA12, cc12, AA13, cc13, bb14, ((hF.repl 18 (by kernel_rfl)).cast (by kernel_rfl)), (hM.cast (by kernel_rfl))⟩
     ·intro s0 s1 s2 s3 s4 s5 s6 s7 s8 s9 s10 hc hi hp a w hS
      obtain rfl : s7 = false := hi
      obtain rfl : s8 = false := hc.f 8 7 (by kernel_rfl) rfl
      obtain ⟨AA12, cc12, AA13, cc13, bb14, hF, hM⟩ := hS
      refine eN 9 14 (t := 27) (fun b => .pointer (some ⟨b, 0, none⟩)) #[.slice none 0 0, .slice none 0 0, .int .i64 0, .slice none 0 0, .slice none 0 0] hF hM (by kernel_rfl) (fun _ => by kernel_rfl) fun bb14 a w hF hM => ?_
      exact ⟨AA12, cc12, AA13, cc13, bb14, ((hF.repl 9 (by kernel_rfl)).cast (by kernel_rfl)), ((hM.repl 13 (by kernel_rfl)).cast (by kernel_rfl))⟩
     ·intro s0 s1 s2 s3 s4 s5 s6 s7 s8 s9 s10 hc hi hp a w hS
      obtain rfl : s8 = false := hi
      obtain rfl : s7 = true := hp 7 (by kernel_rfl)
      obtain rfl : s4 = true := hp 4 (by kernel_rfl)
      obtain rfl : s2 = true := hp 2 (by kernel_rfl)
      obtain ⟨AA12, cc12, AA13, cc13, bb14, hF, hM⟩ := hS
      refine sStore (i := 14) (off := 0) (cs' := #[.slice (some ⟨bb1, 0, none⟩) 2 2, .slice (some ⟨bb2, 0, none⟩) 1 1, .int .i64 300, .slice AA12 2 cc12, .slice AA13 1 cc13]) hF hM (by kernel_rfl) rfl rfl (by kernel_rfl) (by kernel_rfl) rfl (by kernel_rfl) fun w hM => ?_
      exact ⟨AA12, cc12, AA13, cc13, bb14, (hF.cast (by kernel_rfl)), ((hM.repl 13 (by kernel_rfl)).cast (by kernel_rfl))⟩
     ·intro s0 s1 s2 s3 s4 s5 s6 s7 s8 s9 s10 hc hi hp a w hS
      obtain rfl : s9 = false := hi
      obtain rfl : s5 = true := hp 5 (by kernel_rfl)
      obtain ⟨AA12, cc12, AA13, cc13, bb14, hF, hM⟩ := hS
      refine eP 10 (v0 := .int .i64 5) (v := .int .i64 5) hF (by kernel_rfl) (fun _ => by kernel_rfl) rfl fun a hF => ?_
      exact ⟨AA12, cc12, AA13, cc13, bb14, ((hF.repl 10 (by kernel_rfl)).cast (by kernel_rfl)), (hM.cast (by kernel_rfl))⟩
     ·intro s0 s1 s2 s3 s4 s5 s6 s7 s8 s9 s10 hc hi hp a w hS
      obtain rfl : s10 = false := hi
      obtain rfl : s6 = true := hp 6 (by kernel_rfl)
      obtain ⟨AA12, cc12, AA13, cc13, bb14, hF, hM⟩ := hS
      refine eP 11 (v0 := .int .i64 0) (v := .int .i64 0) hF (by kernel_rfl) (fun _ => by kernel_rfl) rfl fun a hF => ?_
      exact ⟨AA12, cc12, AA13, cc13, bb14, ((hF.repl 11 (by kernel_rfl)).cast (by kernel_rfl)), (hM.cast (by kernel_rfl))⟩
    ·intro a w hS
     obtain ⟨AA12, cc12, AA13, cc13, bb14, hF, hM⟩ := hS
     replace hF : Fr 117 [(0, some (.bool false)), (1, some (.pointer (some ⟨bb5, 0, none⟩))), (2, some (.int .i64 0)), (3, some (.int .i64 0)), (4, some (.int .i64 0)), (5, some (.int .i64 4)), (6, some (.int .i64 0)), (7, some (.int .i64 0)), (8, some (.int .i64 0)), (9, some (.pointer (some ⟨bb14, 0, none⟩))), (10, some (.int .i64 5)), (11, some (.int .i64 0)), (44, some (.tuple #[.agg #[.slice (some ⟨bb1, 0, none⟩) 2 2, .slice (some ⟨bb2, 0, none⟩) 1 1, .int .i64 300, .slice AA12 2 cc12, .slice AA13 1 cc13], .int .i64 5, .int .i64 0])), (45, some (.agg #[.slice (some ⟨bb1, 0, none⟩) 2 2, .slice (some ⟨bb2, 0, none⟩) 1 1, .int .i64 300, .slice AA10 2 cc10, .slice AA11 1 cc11])), (46, some (.agg #[.int .i64 0, .int .i64 0, .int .i64 0, .int .i64 100, .int .i64 0])), (47, some (.tuple #[.agg #[.slice (some ⟨bb1, 0, none⟩) 2 2, .slice (some ⟨bb2, 0, none⟩) 1 1, .int .i64 300, .slice AA12 2 cc12, .slice AA13 1 cc13], .int .i64 5, .int .i64 0])), (48, some (.agg #[.slice (some ⟨bb1, 0, none⟩) 2 2, .slice (some ⟨bb2, 0, none⟩) 1 1, .int .i64 300, .slice AA12 2 cc12, .slice AA13 1 cc13])), (49, some (.int .i64 5)), (50, some (.int .i64 0))] a := hF.cast (by kernel_rfl)
     replace hM : Mem w0.heap.size w0 [(1, some (.row bb1 57 #[.int .i64 3, .int .i64 9, .int .i64 7, .int .i64 100, .int .i64 1000, .int .i64 200, .int .i64 250, .int .i64 3, .int .i64 8, .int .i64 6, .int .i64 300, .int .i64 0, .int .i64 0, .int .i64 0])), (2, some (.row bb2 69 #[.int .i64 5, .int .i64 100, .int .i64 1, .int .i64 100, .int .i64 1])), (3, some (.ro AA3 (([-1, -1]).map (Value.int .i64)))), (4, some (.ro AA4 (flatR ([[0, 104857600, 104857600]])))), (5, some (.row bb5 27 #[.slice (some ⟨bb1, 0, none⟩) 2 2, .slice (some ⟨bb2, 0, none⟩) 1 1, .int .i64 300, .slice AA10 2 cc10, .slice AA11 1 cc11])), (6, some (.ro AA6 (([0, -1]).map (Value.int .i64)))), (7, some (.ro AA7 (flatR ([[0, 104857600, 104857600]])))), (8, some (.ro AA8 (([0, -1]).map (Value.int .i64)))), (9, some (.ro AA9 (flatR ([[0, 104857600, 104857600]])))), (10, some (.ro AA10 (([0, -1]).map (Value.int .i64)))), (11, some (.ro AA11 (flatR ([[1300, 0, 0]])))), (12, some (.ro AA12 (([0, -1]).map (Value.int .i64)))), (13, some (.ro AA13 (flatR ([[1300, 0, 0]])))), (14, some (.row bb14 27 #[.slice (some ⟨bb1, 0, none⟩) 2 2, .slice (some ⟨bb2, 0, none⟩) 1 1, .int .i64 300, .slice AA12 2 cc12, .slice AA13 1 cc13]))] w := hM.cast (by kernel_rfl)
     refine hK12 _ _ ?_
     refine wp_seq_k fun K13 hK13 => ?_
     refine rQ hM (by kernel_rfl) (by kernel_rfl) ?_
     refine eQL 52 5 0 (v := .agg #[.slice (some ⟨bb1, 0, none⟩) 2 2, .slice (some ⟨bb2, 0, none⟩) 1 1, .int .i64 300, .slice AA10 2 cc10, .slice AA11 1 cc11]) hF (by kernel_rfl) rfl rfl (by kernel_rfl) (by kernel_rfl) fun a hF => ?_
     refine eQ2 53 (v := .agg #[.int .i64 8, .int .i64 0, .int .i64 6, .int .i64 100, .int .i64 0]) hF (by kernel_rfl) (yld_call (f := 25) (args := #[.int .i64 8, .int .i64 6, .int .i64 100]) hF (by kernel_rfl) (fun _ => by kernel_rfl) (fun w hM => frame_w 8 6 100 w)) fun a hF => ?_
     refine eQ2 54 (v := .tuple #[.int .i64 1, .int .i64 0]) hF (by kernel_rfl) (Yld.to (yld_call (f := 16) (args := #[.agg #[.slice (some ⟨bb1, 0, none⟩) 2 2, .slice (some ⟨bb2, 0, none⟩) 1 1, .int .i64 300, .slice AA10 2 cc10, .slice AA11 1 cc11], .int .i64 3, .agg #[.int .i64 8, .int .i64 0, .int .i64 6, .int .i64 100, .int .i64 0]]) hF (by kernel_rfl) (fun _ => by kernel_rfl) (fun w hM => calls_val (fn_ok (by kernel_rfl) (by kernel_rfl)) (fiFind_x (some ⟨bb1, 0, none⟩) [[3, 9, 7, 100, 1000, 200, 250], [3, 8, 6, 300, 0, 0, 0]] 2 (some ⟨bb2, 0, none⟩) [[5, 100, 1, 100, 1]] 1 300 AA10 ([0, -1]) cc10 AA11 ([[1300, 0, 0]]) cc11 3 8 0 6 100 0 w (hM.roRow (k := 1) rfl) (show WR 7 ([[3, 9, 7, 100, 1000, 200, 250], [3, 8, 6, 300, 0, 0, 0]] : List (List Int)) from by unfold WR; simp) (hM.roRow (k := 2) rfl) (show WR 5 ([[5, 100, 1, 100, 1]] : List (List Int)) from by unfold WR; simp) (hM.ok 10 _ rfl) (hM.ok 11 _ rfl) (show WR 3 ([[1300, 0, 0]]) from by unfold WR; simp) rfl rfl rfl rfl))) (by kernel_rfl)) fun a hF => ?_
     refine eQ 51 (v0 := .tuple #[.int .i64 1, .int .i64 0]) (v := .tuple #[.int .i64 1, .int .i64 0]) hF (by kernel_rfl) (fun _ => by kernel_rfl) rfl fun a hF => ?_
     refine eQ 55 (v0 := .int .i64 1) (v := .int .i64 1) hF (by kernel_rfl) (fun _ => by kernel_rfl) rfl fun a hF => ?_
     refine eQ 56 (v0 := .int .i64 0) (v := .int .i64 0) hF (by kernel_rfl) (fun _ => by kernel_rfl) rfl fun a hF => ?_
     refine eQ 12 (v0 := .int .i64 1) (v := .int .i64 1) hF (by kernel_rfl) (fun _ => by kernel_rfl) rfl fun a hF => ?_
     refine eQ 13 (v0 := .int .i64 0) (v := .int .i64 0) hF (by kernel_rfl) (fun _ => by kernel_rfl) rfl fun a hF => ?_
     refine wpQuiet_nil ?_
     intro w hM
     refine hK13 _ _ ?_
     refine wp_seq_k fun K14 hK14 => ?_
     refine wp_region_lit ?_
     refine wl (sC (f := 23) (args := #[]) hF (by kernel_rfl) rfl (by decide) (by kernel_rfl) (fun _ => by kernel_rfl) ?_)
     refine enterK 4 Try.func23 rfl rfl rfl ?_
     intro a1 hF1 QR15 hR15 hNR15
     refine wp_seq_k fun K16 hK16 => ?_
     refine wp_region_lit ?_
     refine sB 1 [(0, .slice none 0 0)] hF1 (by kernel_rfl) fun a1 hF1 => ?_
     refine wpList_nil ?_
     refine hK16 _ _ ?_
     refine wp_seq_k fun K17 hK17 => ?_
     refine wp_region_lit ?_
     refine sB 2 [(1, .agg #[.int .i64 3, .int .i64 9, .int .i64 7, .int .i64 100, .int .i64 1000, .int .i64 200, .int .i64 250]), (2, .agg #[.int .i64 3, .int .i64 8, .int .i64 6, .int .i64 300, .int .i64 0, .int .i64 0, .int .i64 0])] hF1 (by kernel_rfl) fun a1 hF1 => ?_
     refine wl (eN 3 15 (t := 57) (fun b => .slice (some ⟨b, 0, none⟩) 2 2) #[.int .i64 3, .int .i64 9, .int .i64 7, .int .i64 100, .int .i64 1000, .int .i64 200, .int .i64 250, .int .i64 3, .int .i64 8, .int .i64 6, .int .i64 300, .int .i64 0, .int .i64 0, .int .i64 0] hF1 hM (by kernel_rfl) (fun _ => by kernel_rfl) fun bb15 a1 w hF1 hM => ?_)
     refine sB 1 [(0, .slice (some ⟨bb15, 0, none⟩) 2 2)] hF1 (by kernel_rfl) fun a1 hF1 => ?_
     refine wpList_nil ?_
     refine hK17 _ _ ?_
     refine wp_ret ?_
     refine hR15 _ _ ?_
     refine ret_of hF1 hM (.tmp rfl (.nil)) ⟨_, rfl, ?_⟩
     intro a hF
     refine wl (sC (f := 23) (args := #[]) hF (by kernel_rfl) rfl (by decide) (by kernel_rfl) (fun _ => by kernel_rfl) ?_)
     refine enterK 4 Try.func23 rfl rfl rfl ?_
     intro a1 hF1 QR18 hR18 hNR18
     refine wp_seq_k fun K19 hK19 => ?_
     refine wp_region_lit ?_
     refine sB 1 [(0, .slice none 0 0)] hF1 (by kernel_rfl) fun a1 hF1 => ?_
     refine wpList_nil ?_
     refine hK19 _ _ ?_
     refine wp_seq_k fun K20 hK20 => ?_
     refine wp_region_lit ?_
     refine sB 2 [(1, .agg #[.int .i64 3, .int .i64 9, .int .i64 7, .int .i64 100, .int .i64 1000, .int .i64 200, .int .i64 250]), (2, .agg #[.int .i64 3, .int .i64 8, .int .i64 6, .int .i64 300, .int .i64 0, .int .i64 0, .int .i64 0])] hF1 (by kernel_rfl) fun a1 hF1 => ?_
     refine wl (eN 3 16 (t := 57) (fun b => .slice (some ⟨b, 0, none⟩) 2 2) #[.int .i64 3, .int .i64 9, .int .i64 7, .int .i64 100, .int .i64 1000, .int .i64 200, .int .i64 250, .int .i64 3, .int .i64 8, .int .i64 6, .int .i64 300, .int .i64 0, .int .i64 0, .int .i64 0] hF1 hM (by kernel_rfl) (fun _ => by kernel_rfl) fun bb16 a1 w hF1 hM => ?_)
     refine sB 1 [(0, .slice (some ⟨bb16, 0, none⟩) 2 2)] hF1 (by kernel_rfl) fun a1 hF1 => ?_
     refine wpList_nil ?_
     refine hK20 _ _ ?_
     refine wp_ret ?_
     refine hR18 _ _ ?_
     refine ret_of hF1 hM (.tmp rfl (.nil)) ⟨_, rfl, ?_⟩
     intro a hF
     refine wl (sAppR 60 15 (e := 57) (size := 7) (bytes := 56) (z := .agg #[.int .i64 0, .int .i64 0, .int .i64 0, .int .i64 0, .int .i64 0, .int .i64 0, .int .i64 0]) (m := 2) (c := 2) (l := 2) (news := [.int .i64 3, .int .i64 9, .int .i64 7, .int .i64 100, .int .i64 1000, .int .i64 200, .int .i64 250, .int .i64 3, .int .i64 8, .int .i64 6, .int .i64 300, .int .i64 0, .int .i64 0, .int .i64 0]) (flatR ([[3, 9, 7, 100, 1000, 200, 250], [3, 8, 6, 300, 0, 0, 0], [3, 9, 7, 100, 1000, 200, 250], [3, 8, 6, 300, 0, 0, 0]] : List (List Int))) hF hM (by kernel_rfl) rfl (by kernel_rfl) (by kernel_rfl) (by kernel_rfl) rfl rfl rfl rfl rfl (roR 16 rfl) (by simp [Value.oneCell']) (by omega) (by decide) (by kernel_rfl) (fun h => nomatch h) fun AA17 cc17 a w hF hM => ?_)
     refine wl (eM 61 (v := .tuple #[.agg #[.slice none 0 0, .slice none 0 0, .int .i64 0, .slice none 0 0, .slice none 0 0], .int .i64 2]) hF hM (by kernel_rfl) (yld_call (f := 13) (args := #[.slice AA17 4 cc17, .slice none 0 0]) hF (by kernel_rfl) (fun _ => by kernel_rfl) (fun w hM => fiNew_no AA17 ([[3, 9, 7, 100, 1000, 200, 250], [3, 8, 6, 300, 0, 0, 0], [3, 9, 7, 100, 1000, 200, 250], [3, 8, 6, 300, 0, 0, 0]] : List (List Int)) cc17 none ([] : List (List Int)) 0 w (ro_of_own (hM.ok 15 _ rfl)) (by unfold WR; simp) Ro.nil WR.nil (by kernel_rfl))) fun a w hF hM => ?_)
     refine sB 3 [(57, .tuple #[.agg #[.slice none 0 0, .slice none 0 0, .int .i64 0, .slice none 0 0, .slice none 0 0], .int .i64 2]), (62, .agg #[.slice none 0 0, .slice none 0 0, .int .i64 0, .slice none 0 0, .slice none 0 0]), (63, .int .i64 2)] hF (by kernel_rfl) fun a hF => ?_
     refine wl (eN 14 17 (t := 27) (fun b => .pointer (some ⟨b, 0, none⟩)) #[.slice none 0 0, .slice none 0 0, .int .i64 0, .slice none 0 0, .slice none 0 0] hF hM (by kernel_rfl) (fun _ => by kernel_rfl) fun bb18 a w hF hM => ?_)
     refine wl (sStore (i := 17) (off := 0) (cs' := #[.slice none 0 0, .slice none 0 0, .int .i64 0, .slice none 0 0, .slice none 0 0]) hF hM (by kernel_rfl) rfl rfl (by kernel_rfl) (by kernel_rfl) rfl (by kernel_rfl) fun w hM => ?_)
     refine sB 1 [(15, .int .i64 2)] hF (by kernel_rfl) fun a hF => ?_
     refine wpList_nil ?_
     refine hK14 _ _ ?_
     refine wp_seq_k fun K21 hK21 => ?_
     refine wp_region_lit ?_
     refine sB 1 [(64, .int .i64 0)] hF (by kernel_rfl) fun a hF => ?_
     refine wl (eP 65 (v0 := .bool (decide (0 = 0))) (v := .bool true) hF (by kernel_rfl) (fun _ => by kernel_rfl) (bT (by omega)) fun a hF => ?_)
     refine sB 2 [(66, .bool true), (67, .int .i64 0)] hF (by kernel_rfl) fun a hF => ?_
     refine wl (eP 68 (v0 := .bool (decide (0 = 0))) (v := .bool true) hF (by kernel_rfl) (fun _ => by kernel_rfl) (bT (by omega)) fun a hF => ?_)
     refine sB 3 [(69, .bool true), (70, .bool true), (71, .int .i64 0)] hF (by kernel_rfl) fun a hF => ?_
     refine wl (eP 72 (v0 := .bool (decide (0 = 0))) (v := .bool true) hF (by kernel_rfl) (fun _ => by kernel_rfl) (bT (by omega)) fun a hF => ?_)
     refine sB 3 [(73, .bool true), (74, .bool true), (75, .int .i64 0)] hF (by kernel_rfl) fun a hF => ?_
     refine wl (eP 76 (v0 := .bool (decide (0 = 0))) (v := .bool true) hF (by kernel_rfl) (fun _ => by kernel_rfl) (bT (by omega)) fun a hF => ?_)
     refine sB 3 [(77, .bool true), (78, .bool true), (79, .int .i64 0)] hF (by kernel_rfl) fun a hF => ?_
     refine wl (eP 80 (v0 := .bool (decide (0 = 0))) (v := .bool true) hF (by kernel_rfl) (fun _ => by kernel_rfl) (bT (by omega)) fun a hF => ?_)
     refine sB 3 [(81, .bool true), (82, .bool true), (83, .int .i64 0)] hF (by kernel_rfl) fun a hF => ?_
     refine wl (eP 84 (v0 := .bool (decide (0 = 0))) (v := .bool true) hF (by kernel_rfl) (fun _ => by kernel_rfl) (bT (by omega)) fun a hF => ?_)
     refine sB 2 [(85, .bool true), (16, .bool true)] hF (by kernel_rfl) fun a hF => ?_
     refine wpList_nil ?_
     refine hK21 _ _ ?_
     refine wp_seq_k fun K22 hK22 => ?_
     refine wp_region_lit ?_
     refine sB 3 [(86, .bool true), (87, .bool true), (88, .int .i64 0)] hF (by kernel_rfl) fun a hF => ?_
     refine wl (eP 89 (v0 := .bool (decide (0 = 0))) (v := .bool true) hF (by kernel_rfl) (fun _ => by kernel_rfl) (bT (by omega)) fun a hF => ?_)
     refine sB 3 [(90, .bool true), (91, .bool true), (92, .int .i64 4)] hF (by kernel_rfl) fun a hF => ?_
     refine wl (eP 93 (v0 := .bool (decide (4 = 4))) (v := .bool true) hF (by kernel_rfl) (fun _ => by kernel_rfl) (bT (by omega)) fun a hF => ?_)
     refine sB 3 [(94, .bool true), (95, .bool true), (96, .int .i64 0)] hF (by kernel_rfl) fun a hF => ?_
     refine wl (eP 97 (v0 := .bool (decide (0 = 0))) (v := .bool true) hF (by kernel_rfl) (fun _ => by kernel_rfl) (bT (by omega)) fun a hF => ?_)
     refine sB 3 [(98, .bool true), (99, .bool true), (100, .int .i64 5)] hF (by kernel_rfl) fun a hF => ?_
     refine wl (eP 101 (v0 := .bool (decide (5 = 5))) (v := .bool true) hF (by kernel_rfl) (fun _ => by kernel_rfl) (bT (by omega)) fun a hF => ?_)
     refine sB 3 [(102, .bool true), (103, .bool true), (104, .int .i64 1)] hF (by kernel_rfl) fun a hF => ?_
     refine wl (eP 105 (v0 := .bool (decide (1 = 1))) (v := .bool true) hF (by kernel_rfl) (fun _ => by kernel_rfl) (bT (by omega)) fun a hF => ?_)
     refine sB 3 [(106, .bool true), (107, .bool true), (108, .int .i64 2)] hF (by kernel_rfl) fun a hF => ?_
     refine wl (eP 109 (v0 := .bool (decide (2 = 2))) (v := .bool true) hF (by kernel_rfl) (fun _ => by kernel_rfl) (bT (by omega)) fun a hF => ?_)
     refine sB 2 [(110, .bool true), (111, .bool true)] hF (by kernel_rfl) fun a hF => ?_
     refine wl (eN 112 18 (t := 3) (fun b => .slice (some ⟨b, 0, none⟩) 1 1) #[.int .i64 1] hF hM (by kernel_rfl) (fun _ => by kernel_rfl) fun bb19 a w hF hM => ?_)
     refine sB 1 [(113, .agg #[.slice none 0 0, .slice none 0 0, .int .i64 0, .slice (some ⟨bb19, 0, none⟩) 1 1, .slice none 0 0])] hF (by kernel_rfl) fun a hF => ?_
     refine wl (eM 114 (v := .int .i64 430) hF hM (by kernel_rfl) (Yld.to (yld_call (f := 12) (args := #[.agg #[.slice none 0 0, .slice none 0 0, .int .i64 0, .slice (some ⟨bb19, 0, none⟩) 1 1, .slice none 0 0]]) hF (by kernel_rfl) (fun _ => by kernel_rfl) (fun w hM => fiCheck_x none ([] : List (List Int)) 0 none ([] : List (List Int)) 0 0 (some ⟨bb19, 0, none⟩) [1] 1 none ([] : List (List Int)) 0 w Ro.nil WR.nil Ro.nil WR.nil (hM.roRow (k := 18) rfl) Ro.nil WR.nil rfl rfl rfl rfl)) (by kernel_rfl)) fun a w hF hM => ?_)
     refine wl (eP 115 (v0 := .bool (decide (430 = 430))) (v := .bool true) hF (by kernel_rfl) (fun _ => by kernel_rfl) (bT (by omega)) fun a hF => ?_)
     refine sB 2 [(116, .bool true), (0, .bool true)] hF (by kernel_rfl) fun a hF => ?_
     refine wpList_nil ?_
     refine hK22 _ _ ?_
     refine wp_ret ?_
     refine hR0 _ _ ?_
     refine ret_of hF hM (.tmp rfl (.nil)) ?_
     exact ⟨rfl, hM.bel⟩

end Go.Proofs.Ytogeficooemngaa
