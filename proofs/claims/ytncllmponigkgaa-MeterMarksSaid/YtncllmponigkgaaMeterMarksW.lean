/-
  The walk of MeterMarks.
-/
import Derived.Test.YtncllmponigkgaaMeterE
namespace Go.Proofs.Ytncllmponigkgaa
open Go.RowKit
set_option linter.unusedVariables false
set_option linter.unusedSimpArgs false

set_option maxRecDepth 100000 in
theorem meterMarks_walk (b0 b1 b2 b3 bu ra n0 n1 m0 m1 m2 x0 x1 : Int) (g s : Value) (w0 : World) (h : 0 ≤ bu ∧ bu < 4294967296 ∧ 0 ≤ ra ∧ ra < 4294967296 ∧ 0 ≤ n0 ∧ n0 < 4294967296 ∧ 0 ≤ n1 ∧ n1 < 4294967296) :
    Calls Try.prog 3 #[.agg #[.int .i64 b0, .int .i64 b1, .int .i64 b2, .int .i64 b3], .agg #[.int .u32 bu, .int .u32 ra, g, s], .agg #[.int .u32 n0, .int .u32 n1], .agg #[.int .i64 m0, .int .i64 m1, .int .i64 m2], .agg #[.int .i64 x0, .int .i64 x1]] w0 (Ret w0 (.bool true)) := by
  refine enterK 191 Try.func3 rfl rfl rfl ?_
  intro a hF Q0 hR0 hN0
  have hM := Mem.start w0
  refine wp_seq_k fun K1 hK1 => ?_
  refine wp_region_lit ?_
  refine wl (eN 5 1 (t := 24) (fun b => .pointer (some ⟨b, 0, none⟩)) #[.int .i64 b0, .int .i64 b1, .int .i64 b2, .int .i64 b3] hF hM (by kernel_rfl) (fun _ => by kernel_rfl) fun bb1 a w hF hM => ?_)
  refine wl (eN 6 2 (t := 28) (fun b => .pointer (some ⟨b, 0, none⟩)) #[.int .u32 bu, .int .u32 ra, g, s] hF hM (by kernel_rfl) (fun _ => by kernel_rfl) fun bb2 a w hF hM => ?_)
  refine wl (eN 7 3 (t := 29) (fun b => .pointer (some ⟨b, 0, none⟩)) #[.int .u32 n0, .int .u32 n1] hF hM (by kernel_rfl) (fun _ => by kernel_rfl) fun bb3 a w hF hM => ?_)
  refine wl (eN 8 4 (t := 31) (fun b => .pointer (some ⟨b, 0, none⟩)) #[.int .i64 m0, .int .i64 m1, .int .i64 m2] hF hM (by kernel_rfl) (fun _ => by kernel_rfl) fun bb4 a w hF hM => ?_)
  refine wl (eN 9 5 (t := 33) (fun b => .pointer (some ⟨b, 0, none⟩)) #[.int .i64 x0, .int .i64 x1] hF hM (by kernel_rfl) (fun _ => by kernel_rfl) fun bb5 a w hF hM => ?_)
  refine sB 1 [(10, .bool false)] hF (by kernel_rfl) fun a hF => ?_
  refine wpList_nil ?_
  refine hK1 _ _ ?_
  refine wp_seq_k fun K2 hK2 => ?_
  refine wp_region_lit ?_
  refine wl (eL 34 2 0 (v := .agg #[.int .u32 bu, .int .u32 ra, g, s]) hF hM (by kernel_rfl) rfl rfl (by kernel_rfl) (by kernel_rfl) fun a w hF hM => ?_)
  refine sB 1 [(35, .pointer (some ⟨bb3, 0, none⟩))] hF (by kernel_rfl) fun a hF => ?_
  refine wl (eL 36 3 0 (v := .int .u32 n0) hF hM (by kernel_rfl) rfl rfl (by kernel_rfl) (by kernel_rfl) fun a w hF hM => ?_)
  refine wl (eP 37 (v0 := .int .u16 (IntKind.u16.wrap n0)) (v := .int .u16 (n0 % 65536)) hF (by kernel_rfl) (fun _ => by kernel_rfl) (vi (u16_wrap _)) fun a hF => ?_)
  refine sB 1 [(38, .pointer (some ⟨bb3, 1, none⟩))] hF (by kernel_rfl) fun a hF => ?_
  refine wl (eL 39 3 1 (v := .int .u32 n1) hF hM (by kernel_rfl) rfl rfl (by kernel_rfl) (by kernel_rfl) fun a w hF hM => ?_)
  refine wl (eM 40 (v := .tuple #[.agg #[.int .i64 (1 + bu % 1048576), .int .i64 (1 + ra % 2097152)], .agg #[.int .i64 (1 + n0 % 65536), .int .i64 (min 2097152 (1 + ra % 2097152 + n1 % 524288))]]) hF hM (by kernel_rfl) (yld_call (f := 9) (args := #[.agg #[.int .u32 bu, .int .u32 ra, g, s], .int .u16 (n0 % 65536), .int .u32 n1]) hF (by kernel_rfl) (fun _ => by kernel_rfl) (fun w hM => pair_w bu ra (g) (s) (n0 % 65536) n1 w (by omega))) fun a w hF hM => ?_)
  refine sB 3 [(33, .tuple #[.agg #[.int .i64 (1 + bu % 1048576), .int .i64 (1 + ra % 2097152)], .agg #[.int .i64 (1 + n0 % 65536), .int .i64 (min 2097152 (1 + ra % 2097152 + n1 % 524288))]]), (41, .agg #[.int .i64 (1 + bu % 1048576), .int .i64 (1 + ra % 2097152)]), (42, .agg #[.int .i64 (1 + n0 % 65536), .int .i64 (min 2097152 (1 + ra % 2097152 + n1 % 524288))])] hF (by kernel_rfl) fun a hF => ?_
  refine wl (eN 11 6 (t := 23) (fun b => .pointer (some ⟨b, 0, none⟩)) #[.int .i64 0, .int .i64 0] hF hM (by kernel_rfl) (fun _ => by kernel_rfl) fun bb6 a w hF hM => ?_)
  refine wl (eN 12 7 (t := 23) (fun b => .pointer (some ⟨b, 0, none⟩)) #[.int .i64 0, .int .i64 0] hF hM (by kernel_rfl) (fun _ => by kernel_rfl) fun bb7 a w hF hM => ?_)
  refine wl (sStore (i := 6) (off := 0) (cs' := #[.int .i64 (1 + bu % 1048576), .int .i64 (1 + ra % 2097152)]) hF hM (by kernel_rfl) rfl rfl (by kernel_rfl) (by kernel_rfl) rfl (by kernel_rfl) fun w hM => ?_)
  refine wl (sStore (i := 7) (off := 0) (cs' := #[.int .i64 (1 + n0 % 65536), .int .i64 (min 2097152 (1 + ra % 2097152 + n1 % 524288))]) hF hM (by kernel_rfl) rfl rfl (by kernel_rfl) (by kernel_rfl) rfl (by kernel_rfl) fun w hM => ?_)
  refine wpList_nil ?_
  refine hK2 _ _ ?_
  refine wp_seq_k fun K3 hK3 => ?_
  refine wp_region_lit ?_
  refine wl (eL 43 6 0 (v := .agg #[.int .i64 (1 + bu % 1048576), .int .i64 (1 + ra % 2097152)]) hF hM (by kernel_rfl) rfl rfl (by kernel_rfl) (by kernel_rfl) fun a w hF hM => ?_)
  refine wl (eL 44 7 0 (v := .agg #[.int .i64 (1 + n0 % 65536), .int .i64 (min 2097152 (1 + ra % 2097152 + n1 % 524288))]) hF hM (by kernel_rfl) rfl rfl (by kernel_rfl) (by kernel_rfl) fun a w hF hM => ?_)
  refine wl (eL 45 4 0 (v := .agg #[.int .i64 m0, .int .i64 m1, .int .i64 m2]) hF hM (by kernel_rfl) rfl rfl (by kernel_rfl) (by kernel_rfl) fun a w hF hM => ?_)
  refine wl (eM 46 (v := .agg #[.int .i64 (m0 % 18446744073709551616 % 9999), .int .i64 (m1 % 18446744073709551616 % ((1 + bu % 1048576) * 1048576 + 1)), .int .i64 (m2 % 18446744073709551616 % ((1 + n0 % 65536) * 1048576 + 1))]) hF hM (by kernel_rfl) (yld_call (f := 10) (args := #[.agg #[.int .i64 (1 + bu % 1048576), .int .i64 (1 + ra % 2097152)], .agg #[.int .i64 (1 + n0 % 65536), .int .i64 (min 2097152 (1 + ra % 2097152 + n1 % 524288))], .agg #[.int .i64 m0, .int .i64 m1, .int .i64 m2]]) hF (by kernel_rfl) (fun _ => by kernel_rfl) (fun w hM => near_w (1 + bu % 1048576) (1 + ra % 2097152) (1 + n0 % 65536) (min 2097152 (1 + ra % 2097152 + n1 % 524288)) m0 m1 m2 w (by omega))) fun a w hF hM => ?_)
  refine wl (eN 13 8 (t := 31) (fun b => .pointer (some ⟨b, 0, none⟩)) #[.int .i64 0, .int .i64 0, .int .i64 0] hF hM (by kernel_rfl) (fun _ => by kernel_rfl) fun bb8 a w hF hM => ?_)
  refine wl (sStore (i := 8) (off := 0) (cs' := #[.int .i64 (m0 % 18446744073709551616 % 9999), .int .i64 (m1 % 18446744073709551616 % ((1 + bu % 1048576) * 1048576 + 1)), .int .i64 (m2 % 18446744073709551616 % ((1 + n0 % 65536) * 1048576 + 1))]) hF hM (by kernel_rfl) rfl rfl (by kernel_rfl) (by kernel_rfl) rfl (by kernel_rfl) fun w hM => ?_)
  refine wpList_nil ?_
  refine hK3 _ _ ?_
  refine wp_seq_k fun K4 hK4 => ?_
  refine rF (by kernel_rfl) (by kernel_rfl) (fun S a w => ∃ bb9 : Nat, ∃ bb10 : Nat, ∃ bb11 : Nat, Fr 191 [(5, some (.pointer (some ⟨bb1, 0, none⟩))), (8, some (.pointer (some ⟨bb4, 0, none⟩))), (9, some (.pointer (some ⟨bb5, 0, none⟩))), (10, some (.bool false)), (11, some (.pointer (some ⟨bb6, 0, none⟩))), (12, some (.pointer (some ⟨bb7, 0, none⟩))), (13, some (.pointer (some ⟨bb8, 0, none⟩))), (14, (cond (S.getD 3 false) (some (.pointer (some ⟨bb9, 0, none⟩))) none)), (15, (cond (S.getD 4 false) (some (.pointer (some ⟨bb10, 0, none⟩))) none)), (16, (cond (S.getD 5 false) (some (.pointer (some ⟨bb11, 0, none⟩))) none)), (47, (cond (S.getD 0 false) (some (.agg #[.int .i64 (m0 % 18446744073709551616 % 9999), .int .i64 (m1 % 18446744073709551616 % ((1 + bu % 1048576) * 1048576 + 1)), .int .i64 (m2 % 18446744073709551616 % ((1 + n0 % 65536) * 1048576 + 1))])) none)), (48, (cond (S.getD 1 false) (some (.agg #[.int .i64 (m0 % 18446744073709551616 % 9999), .int .i64 (m1 % 18446744073709551616 % ((1 + bu % 1048576) * 1048576 + 1)), .int .i64 (m2 % 18446744073709551616 % ((1 + n0 % 65536) * 1048576 + 1))])) none)), (49, (cond (S.getD 2 false) (some (.agg #[.int .i64 (m0 % 18446744073709551616 % 9999), .int .i64 (m1 % 18446744073709551616 % ((1 + bu % 1048576) * 1048576 + 1)), .int .i64 (m2 % 18446744073709551616 % ((1 + n0 % 65536) * 1048576 + 1))])) none))] a ∧ Mem w0.heap.size w0 [(1, some (.row bb1 24 #[.int .i64 b0, .int .i64 b1, .int .i64 b2, .int .i64 b3])), (2, some (.row bb2 28 #[.int .u32 bu, .int .u32 ra, g, s])), (3, some (.row bb3 29 #[.int .u32 n0, .int .u32 n1])), (4, some (.row bb4 31 #[.int .i64 m0, .int .i64 m1, .int .i64 m2])), (5, some (.row bb5 33 #[.int .i64 x0, .int .i64 x1])), (6, some (.row bb6 23 #[.int .i64 (1 + bu % 1048576), .int .i64 (1 + ra % 2097152)])), (7, some (.row bb7 23 #[.int .i64 (1 + n0 % 65536), .int .i64 (min 2097152 (1 + ra % 2097152 + n1 % 524288))])), (8, some (.row bb8 31 #[.int .i64 (m0 % 18446744073709551616 % 9999), .int .i64 (m1 % 18446744073709551616 % ((1 + bu % 1048576) * 1048576 + 1)), .int .i64 (m2 % 18446744073709551616 % ((1 + n0 % 65536) * 1048576 + 1))])), (9, (cond (S.getD 6 false) (some (.row bb9 31 #[.int .i64 (m0 % 18446744073709551616 % 9999), .int .i64 (m1 % 18446744073709551616 % ((1 + bu % 1048576) * 1048576 + 1)), .int .i64 (m2 % 18446744073709551616 % ((1 + n0 % 65536) * 1048576 + 1))])) (cond (S.getD 3 false) (some (.row bb9 31 #[.int .i64 0, .int .i64 0, .int .i64 0])) none))), (10, (cond (S.getD 7 false) (some (.row bb10 31 #[.int .i64 (m0 % 18446744073709551616 % 9999), .int .i64 (m1 % 18446744073709551616 % ((1 + bu % 1048576) * 1048576 + 1)), .int .i64 (m2 % 18446744073709551616 % ((1 + n0 % 65536) * 1048576 + 1))])) (cond (S.getD 4 false) (some (.row bb10 31 #[.int .i64 0, .int .i64 0, .int .i64 0])) none))), (11, (cond (S.getD 8 false) (some (.row bb11 31 #[.int .i64 (m0 % 18446744073709551616 % 9999), .int .i64 (m1 % 18446744073709551616 % ((1 + bu % 1048576) * 1048576 + 1)), .int .i64 (m2 % 18446744073709551616 % ((1 + n0 % 65536) * 1048576 + 1))])) (cond (S.getD 5 false) (some (.row bb11 31 #[.int .i64 0, .int .i64 0, .int .i64 0])) none)))] w) ?_ ?_ ?_
  · exact ⟨0, 0, 0, ((((((((((((((Fr.nil hF).co hF (i := 49) (by kernel_rfl)).co hF (i := 48) (by kernel_rfl)).co hF (i := 47) (by kernel_rfl)).co hF (i := 16) (by kernel_rfl)).co hF (i := 15) (by kernel_rfl)).co hF (i := 14) (by kernel_rfl)).co hF (i := 13) (by kernel_rfl)).co hF (i := 12) (by kernel_rfl)).co hF (i := 11) (by kernel_rfl)).co hF (i := 10) (by kernel_rfl)).co hF (i := 9) (by kernel_rfl)).co hF (i := 8) (by kernel_rfl)).co hF (i := 5) (by kernel_rfl)), hM.drew.sub (((((((((((Sub.nil.co (k := 11) (by kernel_rfl)).co (k := 10) (by kernel_rfl)).co (k := 9) (by kernel_rfl)).co (k := 8) (by kernel_rfl)).co (k := 7) (by kernel_rfl)).co (k := 6) (by kernel_rfl)).co (k := 5) (by kernel_rfl)).co (k := 4) (by kernel_rfl)).co (k := 3) (by kernel_rfl)).co (k := 2) (by kernel_rfl)).co (k := 1) (by kernel_rfl))⟩
  · refine stC ?_ (stC ?_ (stC ?_ (stC ?_ (stC ?_ (stC ?_ (stC ?_ (stC ?_ (stC ?_ (trivial)))))))))
    · intro s0 s1 s2 s3 s4 s5 s6 s7 s8 hc hi hp a w hS
      obtain rfl : s0 = false := hi
      obtain ⟨bb9, bb10, bb11, hF, hM⟩ := hS
      refine eL 47 8 0 (v := .agg #[.int .i64 (m0 % 18446744073709551616 % 9999), .int .i64 (m1 % 18446744073709551616 % ((1 + bu % 1048576) * 1048576 + 1)), .int .i64 (m2 % 18446744073709551616 % ((1 + n0 % 65536) * 1048576 + 1))]) hF hM (by kernel_rfl) rfl rfl (by kernel_rfl) (by kernel_rfl) fun a w hF hM => ?_
      exact ⟨bb9, bb10, bb11, ((hF.repl 10 (by kernel_rfl)).cast (by kernel_rfl)), (hM.cast (by kernel_rfl))⟩
    · intro s0 s1 s2 s3 s4 s5 s6 s7 s8 hc hi hp a w hS
      obtain rfl : s1 = false := hi
      obtain ⟨bb9, bb10, bb11, hF, hM⟩ := hS
      refine eL 48 8 0 (v := .agg #[.int .i64 (m0 % 18446744073709551616 % 9999), .int .i64 (m1 % 18446744073709551616 % ((1 + bu % 1048576) * 1048576 + 1)), .int .i64 (m2 % 18446744073709551616 % ((1 + n0 % 65536) * 1048576 + 1))]) hF hM (by kernel_rfl) rfl rfl (by kernel_rfl) (by kernel_rfl) fun a w hF hM => ?_
      exact ⟨bb9, bb10, bb11, ((hF.repl 11 (by kernel_rfl)).cast (by kernel_rfl)), (hM.cast (by kernel_rfl))⟩
    · intro s0 s1 s2 s3 s4 s5 s6 s7 s8 hc hi hp a w hS
      obtain rfl : s2 = false := hi
      obtain ⟨bb9, bb10, bb11, hF, hM⟩ := hS
      refine eL 49 8 0 (v := .agg #[.int .i64 (m0 % 18446744073709551616 % 9999), .int .i64 (m1 % 18446744073709551616 % ((1 + bu % 1048576) * 1048576 + 1)), .int .i64 (m2 % 18446744073709551616 % ((1 + n0 % 65536) * 1048576 + 1))]) hF hM (by kernel_rfl) rfl rfl (by kernel_rfl) (by kernel_rfl) fun a w hF hM => ?_
      exact ⟨bb9, bb10, bb11, ((hF.repl 12 (by kernel_rfl)).cast (by kernel_rfl)), (hM.cast (by kernel_rfl))⟩
    · intro s0 s1 s2 s3 s4 s5 s6 s7 s8 hc hi hp a w hS
      obtain rfl : s3 = false := hi
      obtain rfl : s6 = false := hc.f 6 3 (by kernel_rfl) rfl
      obtain ⟨bb9, bb10, bb11, hF, hM⟩ := hS
      refine eN 14 9 (t := 31) (fun b => .pointer (some ⟨b, 0, none⟩)) #[.int .i64 0, .int .i64 0, .int .i64 0] hF hM (by kernel_rfl) (fun _ => by kernel_rfl) fun bb9 a w hF hM => ?_
      exact ⟨bb9, bb10, bb11, ((hF.repl 7 (by kernel_rfl)).cast (by kernel_rfl)), ((hM.repl 8 (by kernel_rfl)).cast (by kernel_rfl))⟩
    · intro s0 s1 s2 s3 s4 s5 s6 s7 s8 hc hi hp a w hS
      obtain rfl : s4 = false := hi
      obtain rfl : s7 = false := hc.f 7 4 (by kernel_rfl) rfl
      obtain ⟨bb9, bb10, bb11, hF, hM⟩ := hS
      refine eN 15 10 (t := 31) (fun b => .pointer (some ⟨b, 0, none⟩)) #[.int .i64 0, .int .i64 0, .int .i64 0] hF hM (by kernel_rfl) (fun _ => by kernel_rfl) fun bb10 a w hF hM => ?_
      exact ⟨bb9, bb10, bb11, ((hF.repl 8 (by kernel_rfl)).cast (by kernel_rfl)), ((hM.repl 9 (by kernel_rfl)).cast (by kernel_rfl))⟩
    · intro s0 s1 s2 s3 s4 s5 s6 s7 s8 hc hi hp a w hS
      obtain rfl : s5 = false := hi
      obtain rfl : s8 = false := hc.f 8 5 (by kernel_rfl) rfl
      obtain ⟨bb9, bb10, bb11, hF, hM⟩ := hS
      refine eN 16 11 (t := 31) (fun b => .pointer (some ⟨b, 0, none⟩)) #[.int .i64 0, .int .i64 0, .int .i64 0] hF hM (by kernel_rfl) (fun _ => by kernel_rfl) fun bb11 a w hF hM => ?_
      exact ⟨bb9, bb10, bb11, ((hF.repl 9 (by kernel_rfl)).cast (by kernel_rfl)), ((hM.repl 10 (by kernel_rfl)).cast (by kernel_rfl))⟩
    · intro s0 s1 s2 s3 s4 s5 s6 s7 s8 hc hi hp a w hS
      obtain rfl : s6 = false := hi
      obtain rfl : s3 = true := hp 3 (by kernel_rfl)
      obtain rfl : s0 = true := hp 0 (by kernel_rfl)
      obtain ⟨bb9, bb10, bb11, hF, hM⟩ := hS
      refine sStore (i := 9) (off := 0) (cs' := #[.int .i64 (m0 % 18446744073709551616 % 9999), .int .i64 (m1 % 18446744073709551616 % ((1 + bu % 1048576) * 1048576 + 1)), .int .i64 (m2 % 18446744073709551616 % ((1 + n0 % 65536) * 1048576 + 1))]) hF hM (by kernel_rfl) rfl rfl (by kernel_rfl) (by kernel_rfl) rfl (by kernel_rfl) fun w hM => ?_
      exact ⟨bb9, bb10, bb11, (hF.cast (by kernel_rfl)), ((hM.repl 8 (by kernel_rfl)).cast (by kernel_rfl))⟩
    · intro s0 s1 s2 s3 s4 s5 s6 s7 s8 hc hi hp a w hS
      obtain rfl : s7 = false := hi
      obtain rfl : s4 = true := hp 4 (by kernel_rfl)
      obtain rfl : s1 = true := hp 1 (by kernel_rfl)
      obtain ⟨bb9, bb10, bb11, hF, hM⟩ := hS
      refine sStore (i := 10) (off := 0) (cs' := #[.int .i64 (m0 % 18446744073709551616 % 9999), .int .i64 (m1 % 18446744073709551616 % ((1 + bu % 1048576) * 1048576 + 1)), .int .i64 (m2 % 18446744073709551616 % ((1 + n0 % 65536) * 1048576 + 1))]) hF hM (by kernel_rfl) rfl rfl (by kernel_rfl) (by kernel_rfl) rfl (by kernel_rfl) fun w hM => ?_
      exact ⟨bb9, bb10, bb11, (hF.cast (by kernel_rfl)), ((hM.repl 9 (by kernel_rfl)).cast (by kernel_rfl))⟩
    · intro s0 s1 s2 s3 s4 s5 s6 s7 s8 hc hi hp a w hS
      obtain rfl : s8 = false := hi
      obtain rfl : s5 = true := hp 5 (by kernel_rfl)
      obtain rfl : s2 = true := hp 2 (by kernel_rfl)
      obtain ⟨bb9, bb10, bb11, hF, hM⟩ := hS
      refine sStore (i := 11) (off := 0) (cs' := #[.int .i64 (m0 % 18446744073709551616 % 9999), .int .i64 (m1 % 18446744073709551616 % ((1 + bu % 1048576) * 1048576 + 1)), .int .i64 (m2 % 18446744073709551616 % ((1 + n0 % 65536) * 1048576 + 1))]) hF hM (by kernel_rfl) rfl rfl (by kernel_rfl) (by kernel_rfl) rfl (by kernel_rfl) fun w hM => ?_
      exact ⟨bb9, bb10, bb11, (hF.cast (by kernel_rfl)), ((hM.repl 10 (by kernel_rfl)).cast (by kernel_rfl))⟩
  · intro a w hS
    obtain ⟨bb9, bb10, bb11, hF, hM⟩ := hS
    replace hF : Fr 191 [(5, some (.pointer (some ⟨bb1, 0, none⟩))), (8, some (.pointer (some ⟨bb4, 0, none⟩))), (9, some (.pointer (some ⟨bb5, 0, none⟩))), (10, some (.bool false)), (11, some (.pointer (some ⟨bb6, 0, none⟩))), (12, some (.pointer (some ⟨bb7, 0, none⟩))), (13, some (.pointer (some ⟨bb8, 0, none⟩))), (14, some (.pointer (some ⟨bb9, 0, none⟩))), (15, some (.pointer (some ⟨bb10, 0, none⟩))), (16, some (.pointer (some ⟨bb11, 0, none⟩))), (47, some (.agg #[.int .i64 (m0 % 18446744073709551616 % 9999), .int .i64 (m1 % 18446744073709551616 % ((1 + bu % 1048576) * 1048576 + 1)), .int .i64 (m2 % 18446744073709551616 % ((1 + n0 % 65536) * 1048576 + 1))])), (48, some (.agg #[.int .i64 (m0 % 18446744073709551616 % 9999), .int .i64 (m1 % 18446744073709551616 % ((1 + bu % 1048576) * 1048576 + 1)), .int .i64 (m2 % 18446744073709551616 % ((1 + n0 % 65536) * 1048576 + 1))])), (49, some (.agg #[.int .i64 (m0 % 18446744073709551616 % 9999), .int .i64 (m1 % 18446744073709551616 % ((1 + bu % 1048576) * 1048576 + 1)), .int .i64 (m2 % 18446744073709551616 % ((1 + n0 % 65536) * 1048576 + 1))]))] a := hF.cast (by kernel_rfl)
    replace hM : Mem w0.heap.size w0 [(1, some (.row bb1 24 #[.int .i64 b0, .int .i64 b1, .int .i64 b2, .int .i64 b3])), (2, some (.row bb2 28 #[.int .u32 bu, .int .u32 ra, g, s])), (3, some (.row bb3 29 #[.int .u32 n0, .int .u32 n1])), (4, some (.row bb4 31 #[.int .i64 m0, .int .i64 m1, .int .i64 m2])), (5, some (.row bb5 33 #[.int .i64 x0, .int .i64 x1])), (6, some (.row bb6 23 #[.int .i64 (1 + bu % 1048576), .int .i64 (1 + ra % 2097152)])), (7, some (.row bb7 23 #[.int .i64 (1 + n0 % 65536), .int .i64 (min 2097152 (1 + ra % 2097152 + n1 % 524288))])), (8, some (.row bb8 31 #[.int .i64 (m0 % 18446744073709551616 % 9999), .int .i64 (m1 % 18446744073709551616 % ((1 + bu % 1048576) * 1048576 + 1)), .int .i64 (m2 % 18446744073709551616 % ((1 + n0 % 65536) * 1048576 + 1))])), (9, some (.row bb9 31 #[.int .i64 (m0 % 18446744073709551616 % 9999), .int .i64 (m1 % 18446744073709551616 % ((1 + bu % 1048576) * 1048576 + 1)), .int .i64 (m2 % 18446744073709551616 % ((1 + n0 % 65536) * 1048576 + 1))])), (10, some (.row bb10 31 #[.int .i64 (m0 % 18446744073709551616 % 9999), .int .i64 (m1 % 18446744073709551616 % ((1 + bu % 1048576) * 1048576 + 1)), .int .i64 (m2 % 18446744073709551616 % ((1 + n0 % 65536) * 1048576 + 1))])), (11, some (.row bb11 31 #[.int .i64 (m0 % 18446744073709551616 % 9999), .int .i64 (m1 % 18446744073709551616 % ((1 + bu % 1048576) * 1048576 + 1)), .int .i64 (m2 % 18446744073709551616 % ((1 + n0 % 65536) * 1048576 + 1))]))] w := hM.cast (by kernel_rfl)
    refine hK4 _ _ ?_
    refine wp_seq_k fun K5 hK5 => ?_
    refine rF (by kernel_rfl) (by kernel_rfl) (fun S a w => Fr 191 [(5, some (.pointer (some ⟨bb1, 0, none⟩))), (8, some (.pointer (some ⟨bb4, 0, none⟩))), (9, some (.pointer (some ⟨bb5, 0, none⟩))), (10, some (.bool false)), (11, some (.pointer (some ⟨bb6, 0, none⟩))), (12, some (.pointer (some ⟨bb7, 0, none⟩))), (13, some (.pointer (some ⟨bb8, 0, none⟩))), (14, some (.pointer (some ⟨bb9, 0, none⟩))), (15, some (.pointer (some ⟨bb10, 0, none⟩))), (16, some (.pointer (some ⟨bb11, 0, none⟩))), (50, (cond (S.getD 0 false) (some (.pointer (some ⟨bb4, 1, none⟩))) none)), (51, (cond (S.getD 1 false) (some (.int .i64 m1)) none)), (52, (cond (S.getD 2 false) (some (.pointer (some ⟨bb4, 2, none⟩))) none)), (53, (cond (S.getD 3 false) (some (.int .i64 m2)) none)), (54, (cond (S.getD 4 false) (some (.pointer (some ⟨bb4, 0, none⟩))) none)), (55, (cond (S.getD 5 false) (some (.int .i64 m0)) none)), (56, (cond (S.getD 6 false) (some (.pointer (some ⟨bb9, 1, none⟩))) none)), (57, (cond (S.getD 8 false) (some (.pointer (some ⟨bb10, 2, none⟩))) none)), (58, (cond (S.getD 10 false) (some (.pointer (some ⟨bb11, 0, none⟩))) none))] a ∧ Mem w0.heap.size w0 [(1, some (.row bb1 24 #[.int .i64 b0, .int .i64 b1, .int .i64 b2, .int .i64 b3])), (2, some (.row bb2 28 #[.int .u32 bu, .int .u32 ra, g, s])), (3, some (.row bb3 29 #[.int .u32 n0, .int .u32 n1])), (4, some (.row bb4 31 #[.int .i64 m0, .int .i64 m1, .int .i64 m2])), (5, some (.row bb5 33 #[.int .i64 x0, .int .i64 x1])), (6, some (.row bb6 23 #[.int .i64 (1 + bu % 1048576), .int .i64 (1 + ra % 2097152)])), (7, some (.row bb7 23 #[.int .i64 (1 + n0 % 65536), .int .i64 (min 2097152 (1 + ra % 2097152 + n1 % 524288))])), (8, some (.row bb8 31 #[.int .i64 (m0 % 18446744073709551616 % 9999), .int .i64 (m1 % 18446744073709551616 % ((1 + bu % 1048576) * 1048576 + 1)), .int .i64 (m2 % 18446744073709551616 % ((1 + n0 % 65536) * 1048576 + 1))])), (9, (cond (S.getD 7 false) (some (.row bb9 31 #[.int .i64 (m0 % 18446744073709551616 % 9999), .int .i64 m1, .int .i64 (m2 % 18446744073709551616 % ((1 + n0 % 65536) * 1048576 + 1))])) (some (.row bb9 31 #[.int .i64 (m0 % 18446744073709551616 % 9999), .int .i64 (m1 % 18446744073709551616 % ((1 + bu % 1048576) * 1048576 + 1)), .int .i64 (m2 % 18446744073709551616 % ((1 + n0 % 65536) * 1048576 + 1))])))), (10, (cond (S.getD 9 false) (some (.row bb10 31 #[.int .i64 (m0 % 18446744073709551616 % 9999), .int .i64 (m1 % 18446744073709551616 % ((1 + bu % 1048576) * 1048576 + 1)), .int .i64 m2])) (some (.row bb10 31 #[.int .i64 (m0 % 18446744073709551616 % 9999), .int .i64 (m1 % 18446744073709551616 % ((1 + bu % 1048576) * 1048576 + 1)), .int .i64 (m2 % 18446744073709551616 % ((1 + n0 % 65536) * 1048576 + 1))])))), (11, (cond (S.getD 11 false) (some (.row bb11 31 #[.int .i64 m0, .int .i64 (m1 % 18446744073709551616 % ((1 + bu % 1048576) * 1048576 + 1)), .int .i64 (m2 % 18446744073709551616 % ((1 + n0 % 65536) * 1048576 + 1))])) (some (.row bb11 31 #[.int .i64 (m0 % 18446744073709551616 % 9999), .int .i64 (m1 % 18446744073709551616 % ((1 + bu % 1048576) * 1048576 + 1)), .int .i64 (m2 % 18446744073709551616 % ((1 + n0 % 65536) * 1048576 + 1))]))))] w) ?_ ?_ ?_
    · exact ⟨((((((((((((((((((((Fr.nil hF).co hF (i := 58) (by kernel_rfl)).co hF (i := 57) (by kernel_rfl)).co hF (i := 56) (by kernel_rfl)).co hF (i := 55) (by kernel_rfl)).co hF (i := 54) (by kernel_rfl)).co hF (i := 53) (by kernel_rfl)).co hF (i := 52) (by kernel_rfl)).co hF (i := 51) (by kernel_rfl)).co hF (i := 50) (by kernel_rfl)).co hF (i := 16) (by kernel_rfl)).co hF (i := 15) (by kernel_rfl)).co hF (i := 14) (by kernel_rfl)).co hF (i := 13) (by kernel_rfl)).co hF (i := 12) (by kernel_rfl)).co hF (i := 11) (by kernel_rfl)).co hF (i := 10) (by kernel_rfl)).co hF (i := 9) (by kernel_rfl)).co hF (i := 8) (by kernel_rfl)).co hF (i := 5) (by kernel_rfl)), hM.drew.sub (((((((((((Sub.nil.co (k := 11) (by kernel_rfl)).co (k := 10) (by kernel_rfl)).co (k := 9) (by kernel_rfl)).co (k := 8) (by kernel_rfl)).co (k := 7) (by kernel_rfl)).co (k := 6) (by kernel_rfl)).co (k := 5) (by kernel_rfl)).co (k := 4) (by kernel_rfl)).co (k := 3) (by kernel_rfl)).co (k := 2) (by kernel_rfl)).co (k := 1) (by kernel_rfl))⟩
    · refine stC ?_ (stC ?_ (stC ?_ (stC ?_ (stC ?_ (stC ?_ (stC ?_ (stC ?_ (stC ?_ (stC ?_ (stC ?_ (stC ?_ (trivial))))))))))))
      · intro s0 s1 s2 s3 s4 s5 s6 s7 s8 s9 s10 s11 hc hi hp a w hS
        obtain rfl : s0 = false := hi
        obtain ⟨hF, hM⟩ := hS
        refine eP 50 (v0 := .pointer (some ⟨bb4, 1, none⟩)) (v := .pointer (some ⟨bb4, 1, none⟩)) hF (by kernel_rfl) (fun _ => by kernel_rfl) rfl fun a hF => ?_
        exact ⟨((hF.repl 10 (by kernel_rfl)).cast (by kernel_rfl)), (hM.cast (by kernel_rfl))⟩
      · intro s0 s1 s2 s3 s4 s5 s6 s7 s8 s9 s10 s11 hc hi hp a w hS
        obtain rfl : s1 = false := hi
        obtain rfl : s0 = true := hp 0 (by kernel_rfl)
        obtain ⟨hF, hM⟩ := hS
        refine eL 51 4 1 (v := .int .i64 m1) hF hM (by kernel_rfl) rfl rfl (by kernel_rfl) (by kernel_rfl) fun a w hF hM => ?_
        exact ⟨((hF.repl 11 (by kernel_rfl)).cast (by kernel_rfl)), (hM.cast (by kernel_rfl))⟩
      · intro s0 s1 s2 s3 s4 s5 s6 s7 s8 s9 s10 s11 hc hi hp a w hS
        obtain rfl : s2 = false := hi
        obtain ⟨hF, hM⟩ := hS
        refine eP 52 (v0 := .pointer (some ⟨bb4, 2, none⟩)) (v := .pointer (some ⟨bb4, 2, none⟩)) hF (by kernel_rfl) (fun _ => by kernel_rfl) rfl fun a hF => ?_
        exact ⟨((hF.repl 12 (by kernel_rfl)).cast (by kernel_rfl)), (hM.cast (by kernel_rfl))⟩
      · intro s0 s1 s2 s3 s4 s5 s6 s7 s8 s9 s10 s11 hc hi hp a w hS
        obtain rfl : s3 = false := hi
        obtain rfl : s2 = true := hp 2 (by kernel_rfl)
        obtain ⟨hF, hM⟩ := hS
        refine eL 53 4 2 (v := .int .i64 m2) hF hM (by kernel_rfl) rfl rfl (by kernel_rfl) (by kernel_rfl) fun a w hF hM => ?_
        exact ⟨((hF.repl 13 (by kernel_rfl)).cast (by kernel_rfl)), (hM.cast (by kernel_rfl))⟩
      · intro s0 s1 s2 s3 s4 s5 s6 s7 s8 s9 s10 s11 hc hi hp a w hS
        obtain rfl : s4 = false := hi
        obtain ⟨hF, hM⟩ := hS
        refine eP 54 (v0 := .pointer (some ⟨bb4, 0, none⟩)) (v := .pointer (some ⟨bb4, 0, none⟩)) hF (by kernel_rfl) (fun _ => by kernel_rfl) rfl fun a hF => ?_
        exact ⟨((hF.repl 14 (by kernel_rfl)).cast (by kernel_rfl)), (hM.cast (by kernel_rfl))⟩
      · intro s0 s1 s2 s3 s4 s5 s6 s7 s8 s9 s10 s11 hc hi hp a w hS
        obtain rfl : s5 = false := hi
        obtain rfl : s4 = true := hp 4 (by kernel_rfl)
        obtain ⟨hF, hM⟩ := hS
        refine eL 55 4 0 (v := .int .i64 m0) hF hM (by kernel_rfl) rfl rfl (by kernel_rfl) (by kernel_rfl) fun a w hF hM => ?_
        exact ⟨((hF.repl 15 (by kernel_rfl)).cast (by kernel_rfl)), (hM.cast (by kernel_rfl))⟩
      · intro s0 s1 s2 s3 s4 s5 s6 s7 s8 s9 s10 s11 hc hi hp a w hS
        obtain rfl : s6 = false := hi
        obtain rfl : s7 = false := hc.f 7 6 (by kernel_rfl) rfl
        obtain ⟨hF, hM⟩ := hS
        refine eP 56 (v0 := .pointer (some ⟨bb9, 1, none⟩)) (v := .pointer (some ⟨bb9, 1, none⟩)) hF (by kernel_rfl) (fun _ => by kernel_rfl) rfl fun a hF => ?_
        exact ⟨((hF.repl 16 (by kernel_rfl)).cast (by kernel_rfl)), (hM.cast (by kernel_rfl))⟩
      · intro s0 s1 s2 s3 s4 s5 s6 s7 s8 s9 s10 s11 hc hi hp a w hS
        obtain rfl : s7 = false := hi
        obtain rfl : s6 = true := hp 6 (by kernel_rfl)
        obtain rfl : s1 = true := hp 1 (by kernel_rfl)
        obtain ⟨hF, hM⟩ := hS
        refine sStore (i := 9) (off := 1) (cs' := #[.int .i64 (m0 % 18446744073709551616 % 9999), .int .i64 m1, .int .i64 (m2 % 18446744073709551616 % ((1 + n0 % 65536) * 1048576 + 1))]) hF hM (by kernel_rfl) rfl rfl (by kernel_rfl) (by kernel_rfl) rfl (by kernel_rfl) fun w hM => ?_
        exact ⟨(hF.cast (by kernel_rfl)), ((hM.repl 8 (by kernel_rfl)).cast (by kernel_rfl))⟩
      · intro s0 s1 s2 s3 s4 s5 s6 s7 s8 s9 s10 s11 hc hi hp a w hS
        obtain rfl : s8 = false := hi
        obtain rfl : s9 = false := hc.f 9 8 (by kernel_rfl) rfl
        obtain ⟨hF, hM⟩ := hS
        refine eP 57 (v0 := .pointer (some ⟨bb10, 2, none⟩)) (v := .pointer (some ⟨bb10, 2, none⟩)) hF (by kernel_rfl) (fun _ => by kernel_rfl) rfl fun a hF => ?_
        exact ⟨((hF.repl 17 (by kernel_rfl)).cast (by kernel_rfl)), (hM.cast (by kernel_rfl))⟩
      · intro s0 s1 s2 s3 s4 s5 s6 s7 s8 s9 s10 s11 hc hi hp a w hS
        obtain rfl : s9 = false := hi
        obtain rfl : s8 = true := hp 8 (by kernel_rfl)
        obtain rfl : s3 = true := hp 3 (by kernel_rfl)
        obtain ⟨hF, hM⟩ := hS
        refine sStore (i := 10) (off := 2) (cs' := #[.int .i64 (m0 % 18446744073709551616 % 9999), .int .i64 (m1 % 18446744073709551616 % ((1 + bu % 1048576) * 1048576 + 1)), .int .i64 m2]) hF hM (by kernel_rfl) rfl rfl (by kernel_rfl) (by kernel_rfl) rfl (by kernel_rfl) fun w hM => ?_
        exact ⟨(hF.cast (by kernel_rfl)), ((hM.repl 9 (by kernel_rfl)).cast (by kernel_rfl))⟩
      · intro s0 s1 s2 s3 s4 s5 s6 s7 s8 s9 s10 s11 hc hi hp a w hS
        obtain rfl : s10 = false := hi
        obtain rfl : s11 = false := hc.f 11 10 (by kernel_rfl) rfl
        obtain ⟨hF, hM⟩ := hS
        refine eP 58 (v0 := .pointer (some ⟨bb11, 0, none⟩)) (v := .pointer (some ⟨bb11, 0, none⟩)) hF (by kernel_rfl) (fun _ => by kernel_rfl) rfl fun a hF => ?_
        exact ⟨((hF.repl 18 (by kernel_rfl)).cast (by kernel_rfl)), (hM.cast (by kernel_rfl))⟩
      · intro s0 s1 s2 s3 s4 s5 s6 s7 s8 s9 s10 s11 hc hi hp a w hS
        obtain rfl : s11 = false := hi
        obtain rfl : s10 = true := hp 10 (by kernel_rfl)
        obtain rfl : s5 = true := hp 5 (by kernel_rfl)
        obtain ⟨hF, hM⟩ := hS
        refine sStore (i := 11) (off := 0) (cs' := #[.int .i64 m0, .int .i64 (m1 % 18446744073709551616 % ((1 + bu % 1048576) * 1048576 + 1)), .int .i64 (m2 % 18446744073709551616 % ((1 + n0 % 65536) * 1048576 + 1))]) hF hM (by kernel_rfl) rfl rfl (by kernel_rfl) (by kernel_rfl) rfl (by kernel_rfl) fun w hM => ?_
        exact ⟨(hF.cast (by kernel_rfl)), ((hM.repl 10 (by kernel_rfl)).cast (by kernel_rfl))⟩
    · intro a w hS
      obtain ⟨hF, hM⟩ := hS
      replace hF : Fr 191 [(5, some (.pointer (some ⟨bb1, 0, none⟩))), (8, some (.pointer (some ⟨bb4, 0, none⟩))), (9, some (.pointer (some ⟨bb5, 0, none⟩))), (10, some (.bool false)), (11, some (.pointer (some ⟨bb6, 0, none⟩))), (12, some (.pointer (some ⟨bb7, 0, none⟩))), (13, some (.pointer (some ⟨bb8, 0, none⟩))), (14, some (.pointer (some ⟨bb9, 0, none⟩))), (15, some (.pointer (some ⟨bb10, 0, none⟩))), (16, some (.pointer (some ⟨bb11, 0, none⟩))), (50, some (.pointer (some ⟨bb4, 1, none⟩))), (51, some (.int .i64 m1)), (52, some (.pointer (some ⟨bb4, 2, none⟩))), (53, some (.int .i64 m2)), (54, some (.pointer (some ⟨bb4, 0, none⟩))), (55, some (.int .i64 m0)), (56, some (.pointer (some ⟨bb9, 1, none⟩))), (57, some (.pointer (some ⟨bb10, 2, none⟩))), (58, some (.pointer (some ⟨bb11, 0, none⟩)))] a := hF.cast (by kernel_rfl)
      replace hM : Mem w0.heap.size w0 [(1, some (.row bb1 24 #[.int .i64 b0, .int .i64 b1, .int .i64 b2, .int .i64 b3])), (2, some (.row bb2 28 #[.int .u32 bu, .int .u32 ra, g, s])), (3, some (.row bb3 29 #[.int .u32 n0, .int .u32 n1])), (4, some (.row bb4 31 #[.int .i64 m0, .int .i64 m1, .int .i64 m2])), (5, some (.row bb5 33 #[.int .i64 x0, .int .i64 x1])), (6, some (.row bb6 23 #[.int .i64 (1 + bu % 1048576), .int .i64 (1 + ra % 2097152)])), (7, some (.row bb7 23 #[.int .i64 (1 + n0 % 65536), .int .i64 (min 2097152 (1 + ra % 2097152 + n1 % 524288))])), (8, some (.row bb8 31 #[.int .i64 (m0 % 18446744073709551616 % 9999), .int .i64 (m1 % 18446744073709551616 % ((1 + bu % 1048576) * 1048576 + 1)), .int .i64 (m2 % 18446744073709551616 % ((1 + n0 % 65536) * 1048576 + 1))])), (9, some (.row bb9 31 #[.int .i64 (m0 % 18446744073709551616 % 9999), .int .i64 m1, .int .i64 (m2 % 18446744073709551616 % ((1 + n0 % 65536) * 1048576 + 1))])), (10, some (.row bb10 31 #[.int .i64 (m0 % 18446744073709551616 % 9999), .int .i64 (m1 % 18446744073709551616 % ((1 + bu % 1048576) * 1048576 + 1)), .int .i64 m2])), (11, some (.row bb11 31 #[.int .i64 m0, .int .i64 (m1 % 18446744073709551616 % ((1 + bu % 1048576) * 1048576 + 1)), .int .i64 (m2 % 18446744073709551616 % ((1 + n0 % 65536) * 1048576 + 1))]))] w := hM.cast (by kernel_rfl)
      refine hK5 _ _ ?_
      refine wp_seq_k fun K6 hK6 => ?_
      refine wp_seq_k fun K7 hK7 => ?_
      refine wp_region_lit ?_
      refine wl (eL 59 1 0 (v := .agg #[.int .i64 b0, .int .i64 b1, .int .i64 b2, .int .i64 b3]) hF hM (by kernel_rfl) rfl rfl (by kernel_rfl) (by kernel_rfl) fun a w hF hM => ?_)
      refine wl (eL 60 6 0 (v := .agg #[.int .i64 (1 + bu % 1048576), .int .i64 (1 + ra % 2097152)]) hF hM (by kernel_rfl) rfl rfl (by kernel_rfl) (by kernel_rfl) fun a w hF hM => ?_)
      refine wl (eL 61 7 0 (v := .agg #[.int .i64 (1 + n0 % 65536), .int .i64 (min 2097152 (1 + ra % 2097152 + n1 % 524288))]) hF hM (by kernel_rfl) rfl rfl (by kernel_rfl) (by kernel_rfl) fun a w hF hM => ?_)
      refine sB 1 [(62, .agg #[.int .i64 (1 + bu % 1048576), .int .i64 (1 + ra % 2097152), .int .i64 (1 + n0 % 65536), .int .i64 (min 2097152 (1 + ra % 2097152 + n1 % 524288))])] hF (by kernel_rfl) fun a hF => ?_
      refine wl (eL 63 7 0 (v := .agg #[.int .i64 (1 + n0 % 65536), .int .i64 (min 2097152 (1 + ra % 2097152 + n1 % 524288))]) hF hM (by kernel_rfl) rfl rfl (by kernel_rfl) (by kernel_rfl) fun a w hF hM => ?_)
      refine wl (eL 64 6 0 (v := .agg #[.int .i64 (1 + bu % 1048576), .int .i64 (1 + ra % 2097152)]) hF hM (by kernel_rfl) rfl rfl (by kernel_rfl) (by kernel_rfl) fun a w hF hM => ?_)
      refine sB 1 [(65, .agg #[.int .i64 (1 + n0 % 65536), .int .i64 (min 2097152 (1 + ra % 2097152 + n1 % 524288)), .int .i64 (1 + bu % 1048576), .int .i64 (1 + ra % 2097152)])] hF (by kernel_rfl) fun a hF => ?_
      refine wl (eL 66 6 0 (v := .agg #[.int .i64 (1 + bu % 1048576), .int .i64 (1 + ra % 2097152)]) hF hM (by kernel_rfl) rfl rfl (by kernel_rfl) (by kernel_rfl) fun a w hF hM => ?_)
      refine sB 1 [(67, .pointer (some ⟨bb1, 2, none⟩))] hF (by kernel_rfl) fun a hF => ?_
      refine wl (eL 68 1 2 (v := .agg #[.int .i64 b2, .int .i64 b3]) hF hM (by kernel_rfl) rfl rfl (by kernel_rfl) (by kernel_rfl) fun a w hF hM => ?_)
      refine sB 3 [(69, .agg #[.int .i64 (1 + bu % 1048576), .int .i64 (1 + ra % 2097152), .int .i64 b2, .int .i64 b3]), (70, .agg #[.int .i64 b0, .int .i64 b1, .int .i64 b2, .int .i64 b3, .int .i64 (1 + bu % 1048576), .int .i64 (1 + ra % 2097152), .int .i64 (1 + n0 % 65536), .int .i64 (min 2097152 (1 + ra % 2097152 + n1 % 524288)), .int .i64 (1 + n0 % 65536), .int .i64 (min 2097152 (1 + ra % 2097152 + n1 % 524288)), .int .i64 (1 + bu % 1048576), .int .i64 (1 + ra % 2097152), .int .i64 (1 + bu % 1048576), .int .i64 (1 + ra % 2097152), .int .i64 b2, .int .i64 b3]), (71, .int .i64 0)] hF (by kernel_rfl) fun a hF => ?_
      refine wpList_nil ?_
      refine hK7 _ _ ?_
      refine wp_block ?_
      refine wp_loop_k (G := Nat) (fun gg a w => Fr 191 [(71, some (.int .i64 (gg : Int))), (8, some (.pointer (some ⟨bb4, 0, none⟩))), (9, some (.pointer (some ⟨bb5, 0, none⟩))), (13, some (.pointer (some ⟨bb8, 0, none⟩))), (14, some (.pointer (some ⟨bb9, 0, none⟩))), (15, some (.pointer (some ⟨bb10, 0, none⟩))), (16, some (.pointer (some ⟨bb11, 0, none⟩))), (70, some (.agg #[.int .i64 b0, .int .i64 b1, .int .i64 b2, .int .i64 b3, .int .i64 (1 + bu % 1048576), .int .i64 (1 + ra % 2097152), .int .i64 (1 + n0 % 65536), .int .i64 (min 2097152 (1 + ra % 2097152 + n1 % 524288)), .int .i64 (1 + n0 % 65536), .int .i64 (min 2097152 (1 + ra % 2097152 + n1 % 524288)), .int .i64 (1 + bu % 1048576), .int .i64 (1 + ra % 2097152), .int .i64 (1 + bu % 1048576), .int .i64 (1 + ra % 2097152), .int .i64 b2, .int .i64 b3]))] a ∧ Mem w0.heap.size w0 [(1, some (.row bb1 24 #[.int .i64 b0, .int .i64 b1, .int .i64 b2, .int .i64 b3])), (2, some (.row bb2 28 #[.int .u32 bu, .int .u32 ra, g, s])), (3, some (.row bb3 29 #[.int .u32 n0, .int .u32 n1])), (4, some (.row bb4 31 #[.int .i64 m0, .int .i64 m1, .int .i64 m2])), (5, some (.row bb5 33 #[.int .i64 x0, .int .i64 x1])), (6, some (.row bb6 23 #[.int .i64 (1 + bu % 1048576), .int .i64 (1 + ra % 2097152)])), (7, some (.row bb7 23 #[.int .i64 (1 + n0 % 65536), .int .i64 (min 2097152 (1 + ra % 2097152 + n1 % 524288))])), (8, some (.row bb8 31 #[.int .i64 (m0 % 18446744073709551616 % 9999), .int .i64 (m1 % 18446744073709551616 % ((1 + bu % 1048576) * 1048576 + 1)), .int .i64 (m2 % 18446744073709551616 % ((1 + n0 % 65536) * 1048576 + 1))])), (9, some (.row bb9 31 #[.int .i64 (m0 % 18446744073709551616 % 9999), .int .i64 m1, .int .i64 (m2 % 18446744073709551616 % ((1 + n0 % 65536) * 1048576 + 1))])), (10, some (.row bb10 31 #[.int .i64 (m0 % 18446744073709551616 % 9999), .int .i64 (m1 % 18446744073709551616 % ((1 + bu % 1048576) * 1048576 + 1)), .int .i64 m2])), (11, some (.row bb11 31 #[.int .i64 m0, .int .i64 (m1 % 18446744073709551616 % ((1 + bu % 1048576) * 1048576 + 1)), .int .i64 (m2 % 18446744073709551616 % ((1 + n0 % 65536) * 1048576 + 1))]))] w ∧ ((gg : Int) ≤ 4)) (fun gg => 4 - gg) (0) ?_ ?_
      · refine ⟨(((((((((Fr.nil hF).c hF (i := 70) rfl rfl).c hF (i := 16) rfl rfl).c hF (i := 15) rfl rfl).c hF (i := 14) rfl rfl).c hF (i := 13) rfl rfl).c hF (i := 9) rfl rfl).c hF (i := 8) rfl rfl).c hF (i := 71) rfl (vi (by omega))), (hM.sub (((((((((((Sub.nil.c (k := 11) rfl rfl).c (k := 10) rfl rfl).c (k := 9) rfl rfl).c (k := 8) rfl rfl).c (k := 7) rfl rfl).c (k := 6) rfl rfl).c (k := 5) rfl rfl).c (k := 4) rfl rfl).c (k := 3) rfl rfl).c (k := 2) rfl rfl).c (k := 1) rfl rfl)), (show (0 : Int) ≤ 4 from by omega)⟩
      · intro gg a w hI
        intro K8 hK8
        obtain ⟨k71, rfl⟩ : ∃ x, x = gg := ⟨_, rfl⟩
        try dsimp only at hI hK8
        obtain ⟨hF, hM, hz1⟩ := hI
        refine wp_seq_k fun K9 hK9 => ?_
        refine wp_region_lit ?_
        refine sB 1 [(72, .bool (decide ((k71 : Int) < 4)))] hF (by kernel_rfl) fun a hF => ?_
        refine wpList_nil ?_
        refine hK9 _ _ ?_
        refine wp_seq_k fun K10 hK10 => ?_
        by_cases hz2 : (k71 : Int) < 4
        · skip
          have hF := hF.c hF (i := 72) (v := .bool true) rfl (bT hz2)
          refine cT hF (by kernel_rfl) (by kernel_rfl) ?_
          refine wp_skip ?_
          refine hK10 _ _ ?_
          refine wp_seq_k fun K11 hK11 => ?_
          refine wp_block ?_
          refine wp_seq_k fun K12 hK12 => ?_
          refine wp_region_lit ?_
          obtain ⟨ys2, hl2, hm2, hy2⟩ := idx_agg (P := Try.prog) (t := 38) (e := 24) (len := 4) (m := 4) (kd := .i64) [b0, b1, b2, b3, 1 + bu % 1048576, 1 + ra % 2097152, 1 + n0 % 65536, min 2097152 (1 + ra % 2097152 + n1 % 524288), 1 + n0 % 65536, min 2097152 (1 + ra % 2097152 + n1 % 524288), 1 + bu % 1048576, 1 + ra % 2097152, 1 + bu % 1048576, 1 + ra % 2097152, b2, b3] ((k71 : Int)) (by kernel_rfl) (by kernel_rfl) (by omega) rfl
          obtain ⟨y2_0, y2_1, y2_2, y2_3, rfl⟩ := len4 hl2
          refine wl (eM 73 (v := .agg #[.int .i64 y2_0, .int .i64 y2_1, .int .i64 y2_2, .int .i64 y2_3]) hF hM (by kernel_rfl) (yld_index (X := .agg #[.int .i64 b0, .int .i64 b1, .int .i64 b2, .int .i64 b3, .int .i64 (1 + bu % 1048576), .int .i64 (1 + ra % 2097152), .int .i64 (1 + n0 % 65536), .int .i64 (min 2097152 (1 + ra % 2097152 + n1 % 524288)), .int .i64 (1 + n0 % 65536), .int .i64 (min 2097152 (1 + ra % 2097152 + n1 % 524288)), .int .i64 (1 + bu % 1048576), .int .i64 (1 + ra % 2097152), .int .i64 (1 + bu % 1048576), .int .i64 (1 + ra % 2097152), .int .i64 b2, .int .i64 b3]) (I := .int .i64 ((k71 : Int))) hF rfl (by kernel_rfl) (by kernel_rfl) (by kernel_rfl) (fun w => hy2 w)) fun a w hF hM => ?_)
          refine wl (eN 18 12 (t := 24) (fun b => .pointer (some ⟨b, 0, none⟩)) #[.int .i64 0, .int .i64 0, .int .i64 0, .int .i64 0] hF hM (by kernel_rfl) (fun _ => by kernel_rfl) fun bb12 a w hF hM => ?_)
          refine wl (sStore (i := 12) (off := 0) (cs' := #[.int .i64 y2_0, .int .i64 y2_1, .int .i64 y2_2, .int .i64 y2_3]) hF hM (by kernel_rfl) rfl rfl (by kernel_rfl) (by kernel_rfl) rfl (by kernel_rfl) fun w hM => ?_)
          refine wpList_nil ?_
          refine hK12 _ _ ?_
          refine wp_seq_k fun K13 hK13 => ?_
          refine wp_region_lit ?_
          refine sB 1 [(75, .pointer (some ⟨bb12, 0, none⟩))] hF (by kernel_rfl) fun a hF => ?_
          refine wl (eL 76 12 0 (v := .agg #[.int .i64 y2_0, .int .i64 y2_1]) hF hM (by kernel_rfl) rfl rfl (by kernel_rfl) (by kernel_rfl) fun a w hF hM => ?_)
          refine sB 1 [(77, .pointer (some ⟨bb12, 2, none⟩))] hF (by kernel_rfl) fun a hF => ?_
          refine wl (eL 78 12 2 (v := .agg #[.int .i64 y2_2, .int .i64 y2_3]) hF hM (by kernel_rfl) rfl rfl (by kernel_rfl) (by kernel_rfl) fun a w hF hM => ?_)
          refine wl (eM 79 (v := .tuple #[.agg #[.int .i64 0, .int .i64 (newC y2_0 y2_1 y2_2 y2_3), .int .i64 (newP y2_0 y2_1 y2_2 y2_3)], .int .i64 (newE y2_0 y2_1 y2_2 y2_3)]) hF hM (by kernel_rfl) (yld_call (f := 11) (args := #[.agg #[.int .i64 y2_0, .int .i64 y2_1], .agg #[.int .i64 y2_2, .int .i64 y2_3]]) hF (by kernel_rfl) (fun _ => by kernel_rfl) (fun w hM => meterNew_w y2_0 y2_1 y2_2 y2_3 w)) fun a w hF hM => ?_)
          refine sB 3 [(74, .tuple #[.agg #[.int .i64 0, .int .i64 (newC y2_0 y2_1 y2_2 y2_3), .int .i64 (newP y2_0 y2_1 y2_2 y2_3)], .int .i64 (newE y2_0 y2_1 y2_2 y2_3)]), (80, .agg #[.int .i64 0, .int .i64 (newC y2_0 y2_1 y2_2 y2_3), .int .i64 (newP y2_0 y2_1 y2_2 y2_3)]), (81, .int .i64 (newE y2_0 y2_1 y2_2 y2_3))] hF (by kernel_rfl) fun a hF => ?_
          refine wl (eN 19 13 (t := 31) (fun b => .pointer (some ⟨b, 0, none⟩)) #[.int .i64 0, .int .i64 0, .int .i64 0] hF hM (by kernel_rfl) (fun _ => by kernel_rfl) fun bb13 a w hF hM => ?_)
          refine wl (sStore (i := 13) (off := 0) (cs' := #[.int .i64 0, .int .i64 (newC y2_0 y2_1 y2_2 y2_3), .int .i64 (newP y2_0 y2_1 y2_2 y2_3)]) hF hM (by kernel_rfl) rfl rfl (by kernel_rfl) (by kernel_rfl) rfl (by kernel_rfl) fun w hM => ?_)
          refine sB 1 [(20, .int .i64 (newE y2_0 y2_1 y2_2 y2_3))] hF (by kernel_rfl) fun a hF => ?_
          refine wpList_nil ?_
          refine hK13 _ _ ?_
          refine wp_seq_k fun K14 hK14 => ?_
          refine wp_region_lit ?_
          refine sB 1 [(83, .pointer (some ⟨bb12, 0, none⟩))] hF (by kernel_rfl) fun a hF => ?_
          refine wl (eL 84 12 0 (v := .agg #[.int .i64 y2_0, .int .i64 y2_1]) hF hM (by kernel_rfl) rfl rfl (by kernel_rfl) (by kernel_rfl) fun a w hF hM => ?_)
          refine sB 1 [(85, .pointer (some ⟨bb12, 2, none⟩))] hF (by kernel_rfl) fun a hF => ?_
          refine wl (eL 86 12 2 (v := .agg #[.int .i64 y2_2, .int .i64 y2_3]) hF hM (by kernel_rfl) rfl rfl (by kernel_rfl) (by kernel_rfl) fun a w hF hM => ?_)
          refine wl (eM 87 (v := .tuple #[.agg #[.int .i64 0, .int .i64 (newC y2_0 y2_1 y2_2 y2_3), .int .i64 (newP y2_0 y2_1 y2_2 y2_3)], .int .i64 (newE y2_0 y2_1 y2_2 y2_3)]) hF hM (by kernel_rfl) (yld_call (f := 12) (args := #[.agg #[.int .i64 y2_0, .int .i64 y2_1], .agg #[.int .i64 y2_2, .int .i64 y2_3]]) hF (by kernel_rfl) (fun _ => by kernel_rfl) (fun w hM => refNew_w y2_0 y2_1 y2_2 y2_3 w)) fun a w hF hM => ?_)
          refine sB 3 [(82, .tuple #[.agg #[.int .i64 0, .int .i64 (newC y2_0 y2_1 y2_2 y2_3), .int .i64 (newP y2_0 y2_1 y2_2 y2_3)], .int .i64 (newE y2_0 y2_1 y2_2 y2_3)]), (88, .agg #[.int .i64 0, .int .i64 (newC y2_0 y2_1 y2_2 y2_3), .int .i64 (newP y2_0 y2_1 y2_2 y2_3)]), (89, .int .i64 (newE y2_0 y2_1 y2_2 y2_3))] hF (by kernel_rfl) fun a hF => ?_
          refine wl (eN 21 14 (t := 31) (fun b => .pointer (some ⟨b, 0, none⟩)) #[.int .i64 0, .int .i64 0, .int .i64 0] hF hM (by kernel_rfl) (fun _ => by kernel_rfl) fun bb14 a w hF hM => ?_)
          refine wl (sStore (i := 14) (off := 0) (cs' := #[.int .i64 0, .int .i64 (newC y2_0 y2_1 y2_2 y2_3), .int .i64 (newP y2_0 y2_1 y2_2 y2_3)]) hF hM (by kernel_rfl) rfl rfl (by kernel_rfl) (by kernel_rfl) rfl (by kernel_rfl) fun w hM => ?_)
          refine sB 1 [(22, .int .i64 (newE y2_0 y2_1 y2_2 y2_3))] hF (by kernel_rfl) fun a hF => ?_
          refine wpList_nil ?_
          refine hK14 _ _ ?_
          refine wp_seq_k fun K15 hK15 => ?_
          refine wp_seq_k fun K16 hK16 => ?_
          refine wp_region_lit ?_
          refine wl (eL 90 13 0 (v := .agg #[.int .i64 0, .int .i64 (newC y2_0 y2_1 y2_2 y2_3), .int .i64 (newP y2_0 y2_1 y2_2 y2_3)]) hF hM (by kernel_rfl) rfl rfl (by kernel_rfl) (by kernel_rfl) fun a w hF hM => ?_)
          refine wl (eL 91 14 0 (v := .agg #[.int .i64 0, .int .i64 (newC y2_0 y2_1 y2_2 y2_3), .int .i64 (newP y2_0 y2_1 y2_2 y2_3)]) hF hM (by kernel_rfl) rfl rfl (by kernel_rfl) (by kernel_rfl) fun a w hF hM => ?_)
          refine wl (eM 92 (v := .bool false) hF hM (by kernel_rfl) ((yld_neq (C := Mem _ _ _) [0, newC y2_0 y2_1 y2_2 y2_3, newP y2_0 y2_1 y2_2 y2_3] [0, newC y2_0 y2_1 y2_2 y2_3, newP y2_0 y2_1 y2_2 y2_3] hF rfl (by kernel_rfl) (by kernel_rfl) (by kernel_rfl) rfl (by kernel_rfl) (by kernel_rfl) (by kernel_rfl) rfl rfl).to (nT rfl)) fun a w hF hM => ?_)
          refine sB 3 [(93, .bool false), (94, .int .i64 (newE y2_0 y2_1 y2_2 y2_3)), (95, .int .i64 (newE y2_0 y2_1 y2_2 y2_3))] hF (by kernel_rfl) fun a hF => ?_
          refine wl (eP 96 (v0 := .bool (!decide (newE y2_0 y2_1 y2_2 y2_3 = newE y2_0 y2_1 y2_2 y2_3))) (v := .bool false) hF (by kernel_rfl) (fun _ => by kernel_rfl) (nT (by omega)) fun a hF => ?_)
          refine sB 1 [(97, .bool false)] hF (by kernel_rfl) fun a hF => ?_
          refine wpList_nil ?_
          refine hK16 _ _ ?_
          refine cF hF (by kernel_rfl) (by kernel_rfl) ?_
          refine wp_skip ?_
          refine hK15 _ _ ?_
          refine wp_seq_k fun K17 hK17 => ?_
          refine wp_region_lit ?_
          refine wl (eL 98 4 0 (v := .agg #[.int .i64 m0, .int .i64 m1, .int .i64 m2]) hF hM (by kernel_rfl) rfl rfl (by kernel_rfl) (by kernel_rfl) fun a w hF hM => ?_)
          refine wl (eL 99 8 0 (v := .agg #[.int .i64 (m0 % 18446744073709551616 % 9999), .int .i64 (m1 % 18446744073709551616 % ((1 + bu % 1048576) * 1048576 + 1)), .int .i64 (m2 % 18446744073709551616 % ((1 + n0 % 65536) * 1048576 + 1))]) hF hM (by kernel_rfl) rfl rfl (by kernel_rfl) (by kernel_rfl) fun a w hF hM => ?_)
          refine wl (eL 100 9 0 (v := .agg #[.int .i64 (m0 % 18446744073709551616 % 9999), .int .i64 m1, .int .i64 (m2 % 18446744073709551616 % ((1 + n0 % 65536) * 1048576 + 1))]) hF hM (by kernel_rfl) rfl rfl (by kernel_rfl) (by kernel_rfl) fun a w hF hM => ?_)
          refine wl (eL 101 10 0 (v := .agg #[.int .i64 (m0 % 18446744073709551616 % 9999), .int .i64 (m1 % 18446744073709551616 % ((1 + bu % 1048576) * 1048576 + 1)), .int .i64 m2]) hF hM (by kernel_rfl) rfl rfl (by kernel_rfl) (by kernel_rfl) fun a w hF hM => ?_)
          refine wl (eL 102 11 0 (v := .agg #[.int .i64 m0, .int .i64 (m1 % 18446744073709551616 % ((1 + bu % 1048576) * 1048576 + 1)), .int .i64 (m2 % 18446744073709551616 % ((1 + n0 % 65536) * 1048576 + 1))]) hF hM (by kernel_rfl) rfl rfl (by kernel_rfl) (by kernel_rfl) fun a w hF hM => ?_)
          refine wl (eL 103 14 0 (v := .agg #[.int .i64 0, .int .i64 (newC y2_0 y2_1 y2_2 y2_3), .int .i64 (newP y2_0 y2_1 y2_2 y2_3)]) hF hM (by kernel_rfl) rfl rfl (by kernel_rfl) (by kernel_rfl) fun a w hF hM => ?_)
          refine sB 2 [(104, .agg #[.int .i64 m0, .int .i64 m1, .int .i64 m2, .int .i64 (m0 % 18446744073709551616 % 9999), .int .i64 (m1 % 18446744073709551616 % ((1 + bu % 1048576) * 1048576 + 1)), .int .i64 (m2 % 18446744073709551616 % ((1 + n0 % 65536) * 1048576 + 1)), .int .i64 (m0 % 18446744073709551616 % 9999), .int .i64 m1, .int .i64 (m2 % 18446744073709551616 % ((1 + n0 % 65536) * 1048576 + 1)), .int .i64 (m0 % 18446744073709551616 % 9999), .int .i64 (m1 % 18446744073709551616 % ((1 + bu % 1048576) * 1048576 + 1)), .int .i64 m2, .int .i64 m0, .int .i64 (m1 % 18446744073709551616 % ((1 + bu % 1048576) * 1048576 + 1)), .int .i64 (m2 % 18446744073709551616 % ((1 + n0 % 65536) * 1048576 + 1)), .int .i64 0, .int .i64 (newC y2_0 y2_1 y2_2 y2_3), .int .i64 (newP y2_0 y2_1 y2_2 y2_3)]), (105, .int .i64 0)] hF (by kernel_rfl) fun a hF => ?_
          refine wpList_nil ?_
          refine hK17 _ _ ?_
          refine wp_block ?_
          refine wp_loop_k (G := Nat) (fun gg a w => Fr 191 [(105, some (.int .i64 (gg : Int))), (8, some (.pointer (some ⟨bb4, 0, none⟩))), (9, some (.pointer (some ⟨bb5, 0, none⟩))), (13, some (.pointer (some ⟨bb8, 0, none⟩))), (14, some (.pointer (some ⟨bb9, 0, none⟩))), (15, some (.pointer (some ⟨bb10, 0, none⟩))), (16, some (.pointer (some ⟨bb11, 0, none⟩))), (18, some (.pointer (some ⟨bb12, 0, none⟩))), (19, some (.pointer (some ⟨bb13, 0, none⟩))), (20, some (.int .i64 (newE y2_0 y2_1 y2_2 y2_3))), (21, some (.pointer (some ⟨bb14, 0, none⟩))), (22, some (.int .i64 (newE y2_0 y2_1 y2_2 y2_3))), (70, some (.agg #[.int .i64 b0, .int .i64 b1, .int .i64 b2, .int .i64 b3, .int .i64 (1 + bu % 1048576), .int .i64 (1 + ra % 2097152), .int .i64 (1 + n0 % 65536), .int .i64 (min 2097152 (1 + ra % 2097152 + n1 % 524288)), .int .i64 (1 + n0 % 65536), .int .i64 (min 2097152 (1 + ra % 2097152 + n1 % 524288)), .int .i64 (1 + bu % 1048576), .int .i64 (1 + ra % 2097152), .int .i64 (1 + bu % 1048576), .int .i64 (1 + ra % 2097152), .int .i64 b2, .int .i64 b3])), (71, some (.int .i64 (k71 : Int))), (72, some (.bool true)), (73, some (.agg #[.int .i64 y2_0, .int .i64 y2_1, .int .i64 y2_2, .int .i64 y2_3])), (74, some (.tuple #[.agg #[.int .i64 0, .int .i64 (newC y2_0 y2_1 y2_2 y2_3), .int .i64 (newP y2_0 y2_1 y2_2 y2_3)], .int .i64 (newE y2_0 y2_1 y2_2 y2_3)])), (75, some (.pointer (some ⟨bb12, 0, none⟩))), (76, some (.agg #[.int .i64 y2_0, .int .i64 y2_1])), (77, some (.pointer (some ⟨bb12, 2, none⟩))), (78, some (.agg #[.int .i64 y2_2, .int .i64 y2_3])), (79, some (.tuple #[.agg #[.int .i64 0, .int .i64 (newC y2_0 y2_1 y2_2 y2_3), .int .i64 (newP y2_0 y2_1 y2_2 y2_3)], .int .i64 (newE y2_0 y2_1 y2_2 y2_3)])), (80, some (.agg #[.int .i64 0, .int .i64 (newC y2_0 y2_1 y2_2 y2_3), .int .i64 (newP y2_0 y2_1 y2_2 y2_3)])), (81, some (.int .i64 (newE y2_0 y2_1 y2_2 y2_3))), (82, some (.tuple #[.agg #[.int .i64 0, .int .i64 (newC y2_0 y2_1 y2_2 y2_3), .int .i64 (newP y2_0 y2_1 y2_2 y2_3)], .int .i64 (newE y2_0 y2_1 y2_2 y2_3)])), (83, some (.pointer (some ⟨bb12, 0, none⟩))), (84, some (.agg #[.int .i64 y2_0, .int .i64 y2_1])), (85, some (.pointer (some ⟨bb12, 2, none⟩))), (86, some (.agg #[.int .i64 y2_2, .int .i64 y2_3])), (87, some (.tuple #[.agg #[.int .i64 0, .int .i64 (newC y2_0 y2_1 y2_2 y2_3), .int .i64 (newP y2_0 y2_1 y2_2 y2_3)], .int .i64 (newE y2_0 y2_1 y2_2 y2_3)])), (88, some (.agg #[.int .i64 0, .int .i64 (newC y2_0 y2_1 y2_2 y2_3), .int .i64 (newP y2_0 y2_1 y2_2 y2_3)])), (89, some (.int .i64 (newE y2_0 y2_1 y2_2 y2_3))), (90, some (.agg #[.int .i64 0, .int .i64 (newC y2_0 y2_1 y2_2 y2_3), .int .i64 (newP y2_0 y2_1 y2_2 y2_3)])), (91, some (.agg #[.int .i64 0, .int .i64 (newC y2_0 y2_1 y2_2 y2_3), .int .i64 (newP y2_0 y2_1 y2_2 y2_3)])), (92, some (.bool false)), (93, some (.bool false)), (94, some (.int .i64 (newE y2_0 y2_1 y2_2 y2_3))), (95, some (.int .i64 (newE y2_0 y2_1 y2_2 y2_3))), (96, some (.bool false)), (97, some (.bool false)), (98, some (.agg #[.int .i64 m0, .int .i64 m1, .int .i64 m2])), (99, some (.agg #[.int .i64 (m0 % 18446744073709551616 % 9999), .int .i64 (m1 % 18446744073709551616 % ((1 + bu % 1048576) * 1048576 + 1)), .int .i64 (m2 % 18446744073709551616 % ((1 + n0 % 65536) * 1048576 + 1))])), (100, some (.agg #[.int .i64 (m0 % 18446744073709551616 % 9999), .int .i64 m1, .int .i64 (m2 % 18446744073709551616 % ((1 + n0 % 65536) * 1048576 + 1))])), (101, some (.agg #[.int .i64 (m0 % 18446744073709551616 % 9999), .int .i64 (m1 % 18446744073709551616 % ((1 + bu % 1048576) * 1048576 + 1)), .int .i64 m2])), (102, some (.agg #[.int .i64 m0, .int .i64 (m1 % 18446744073709551616 % ((1 + bu % 1048576) * 1048576 + 1)), .int .i64 (m2 % 18446744073709551616 % ((1 + n0 % 65536) * 1048576 + 1))])), (103, some (.agg #[.int .i64 0, .int .i64 (newC y2_0 y2_1 y2_2 y2_3), .int .i64 (newP y2_0 y2_1 y2_2 y2_3)])), (104, some (.agg #[.int .i64 m0, .int .i64 m1, .int .i64 m2, .int .i64 (m0 % 18446744073709551616 % 9999), .int .i64 (m1 % 18446744073709551616 % ((1 + bu % 1048576) * 1048576 + 1)), .int .i64 (m2 % 18446744073709551616 % ((1 + n0 % 65536) * 1048576 + 1)), .int .i64 (m0 % 18446744073709551616 % 9999), .int .i64 m1, .int .i64 (m2 % 18446744073709551616 % ((1 + n0 % 65536) * 1048576 + 1)), .int .i64 (m0 % 18446744073709551616 % 9999), .int .i64 (m1 % 18446744073709551616 % ((1 + bu % 1048576) * 1048576 + 1)), .int .i64 m2, .int .i64 m0, .int .i64 (m1 % 18446744073709551616 % ((1 + bu % 1048576) * 1048576 + 1)), .int .i64 (m2 % 18446744073709551616 % ((1 + n0 % 65536) * 1048576 + 1)), .int .i64 0, .int .i64 (newC y2_0 y2_1 y2_2 y2_3), .int .i64 (newP y2_0 y2_1 y2_2 y2_3)]))] a ∧ Mem w0.heap.size w0 [(1, some (.row bb1 24 #[.int .i64 b0, .int .i64 b1, .int .i64 b2, .int .i64 b3])), (2, some (.row bb2 28 #[.int .u32 bu, .int .u32 ra, g, s])), (3, some (.row bb3 29 #[.int .u32 n0, .int .u32 n1])), (4, some (.row bb4 31 #[.int .i64 m0, .int .i64 m1, .int .i64 m2])), (5, some (.row bb5 33 #[.int .i64 x0, .int .i64 x1])), (6, some (.row bb6 23 #[.int .i64 (1 + bu % 1048576), .int .i64 (1 + ra % 2097152)])), (7, some (.row bb7 23 #[.int .i64 (1 + n0 % 65536), .int .i64 (min 2097152 (1 + ra % 2097152 + n1 % 524288))])), (8, some (.row bb8 31 #[.int .i64 (m0 % 18446744073709551616 % 9999), .int .i64 (m1 % 18446744073709551616 % ((1 + bu % 1048576) * 1048576 + 1)), .int .i64 (m2 % 18446744073709551616 % ((1 + n0 % 65536) * 1048576 + 1))])), (9, some (.row bb9 31 #[.int .i64 (m0 % 18446744073709551616 % 9999), .int .i64 m1, .int .i64 (m2 % 18446744073709551616 % ((1 + n0 % 65536) * 1048576 + 1))])), (10, some (.row bb10 31 #[.int .i64 (m0 % 18446744073709551616 % 9999), .int .i64 (m1 % 18446744073709551616 % ((1 + bu % 1048576) * 1048576 + 1)), .int .i64 m2])), (11, some (.row bb11 31 #[.int .i64 m0, .int .i64 (m1 % 18446744073709551616 % ((1 + bu % 1048576) * 1048576 + 1)), .int .i64 (m2 % 18446744073709551616 % ((1 + n0 % 65536) * 1048576 + 1))])), (12, some (.row bb12 24 #[.int .i64 y2_0, .int .i64 y2_1, .int .i64 y2_2, .int .i64 y2_3])), (13, some (.row bb13 31 #[.int .i64 0, .int .i64 (newC y2_0 y2_1 y2_2 y2_3), .int .i64 (newP y2_0 y2_1 y2_2 y2_3)])), (14, some (.row bb14 31 #[.int .i64 0, .int .i64 (newC y2_0 y2_1 y2_2 y2_3), .int .i64 (newP y2_0 y2_1 y2_2 y2_3)]))] w ∧ ((gg : Int) ≤ 6)) (fun gg => 6 - gg) (0) ?_ ?_
          · refine ⟨((((((((((((((((((((((((((((((((((((((((((((((((Fr.nil hF).c hF (i := 104) rfl rfl).c hF (i := 103) rfl rfl).c hF (i := 102) rfl rfl).c hF (i := 101) rfl rfl).c hF (i := 100) rfl rfl).c hF (i := 99) rfl rfl).c hF (i := 98) rfl rfl).c hF (i := 97) rfl rfl).c hF (i := 96) rfl rfl).c hF (i := 95) rfl rfl).c hF (i := 94) rfl rfl).c hF (i := 93) rfl rfl).c hF (i := 92) rfl rfl).c hF (i := 91) rfl rfl).c hF (i := 90) rfl rfl).c hF (i := 89) rfl rfl).c hF (i := 88) rfl rfl).c hF (i := 87) rfl rfl).c hF (i := 86) rfl rfl).c hF (i := 85) rfl rfl).c hF (i := 84) rfl rfl).c hF (i := 83) rfl rfl).c hF (i := 82) rfl rfl).c hF (i := 81) rfl rfl).c hF (i := 80) rfl rfl).c hF (i := 79) rfl rfl).c hF (i := 78) rfl rfl).c hF (i := 77) rfl rfl).c hF (i := 76) rfl rfl).c hF (i := 75) rfl rfl).c hF (i := 74) rfl rfl).c hF (i := 73) rfl rfl).c hF (i := 72) rfl rfl).c hF (i := 71) rfl rfl).c hF (i := 70) rfl rfl).c hF (i := 22) rfl rfl).c hF (i := 21) rfl rfl).c hF (i := 20) rfl rfl).c hF (i := 19) rfl rfl).c hF (i := 18) rfl rfl).c hF (i := 16) rfl rfl).c hF (i := 15) rfl rfl).c hF (i := 14) rfl rfl).c hF (i := 13) rfl rfl).c hF (i := 9) rfl rfl).c hF (i := 8) rfl rfl).c hF (i := 105) rfl (vi (by omega))), (hM.sub ((((((((((((((Sub.nil.c (k := 14) rfl rfl).c (k := 13) rfl rfl).c (k := 12) rfl rfl).c (k := 11) rfl rfl).c (k := 10) rfl rfl).c (k := 9) rfl rfl).c (k := 8) rfl rfl).c (k := 7) rfl rfl).c (k := 6) rfl rfl).c (k := 5) rfl rfl).c (k := 4) rfl rfl).c (k := 3) rfl rfl).c (k := 2) rfl rfl).c (k := 1) rfl rfl)), (show (0 : Int) ≤ 6 from by omega)⟩
          · intro gg a w hI
            intro K18 hK18
            obtain ⟨k105, rfl⟩ : ∃ x, x = gg := ⟨_, rfl⟩
            try dsimp only at hI hK18
            obtain ⟨hF, hM, hz3⟩ := hI
            refine wp_seq_k fun K19 hK19 => ?_
            refine wp_region_lit ?_
            refine sB 1 [(106, .bool (decide ((k105 : Int) < 6)))] hF (by kernel_rfl) fun a hF => ?_
            refine wpList_nil ?_
            refine hK19 _ _ ?_
            refine wp_seq_k fun K20 hK20 => ?_
            by_cases hz4 : (k105 : Int) < 6
            · skip
              have hF := hF.c hF (i := 106) (v := .bool true) rfl (bT hz4)
              refine cT hF (by kernel_rfl) (by kernel_rfl) ?_
              refine wp_skip ?_
              refine hK20 _ _ ?_
              refine wp_seq_k fun K21 hK21 => ?_
              refine wp_block ?_
              refine wp_seq_k fun K22 hK22 => ?_
              refine wp_region_lit ?_
              obtain ⟨ys4, hl4, hm4, hy4⟩ := idx_agg (P := Try.prog) (t := 42) (e := 31) (len := 6) (m := 3) (kd := .i64) [m0, m1, m2, m0 % 18446744073709551616 % 9999, m1 % 18446744073709551616 % ((1 + bu % 1048576) * 1048576 + 1), m2 % 18446744073709551616 % ((1 + n0 % 65536) * 1048576 + 1), m0 % 18446744073709551616 % 9999, m1, m2 % 18446744073709551616 % ((1 + n0 % 65536) * 1048576 + 1), m0 % 18446744073709551616 % 9999, m1 % 18446744073709551616 % ((1 + bu % 1048576) * 1048576 + 1), m2, m0, m1 % 18446744073709551616 % ((1 + bu % 1048576) * 1048576 + 1), m2 % 18446744073709551616 % ((1 + n0 % 65536) * 1048576 + 1), 0, newC y2_0 y2_1 y2_2 y2_3, newP y2_0 y2_1 y2_2 y2_3] ((k105 : Int)) (by kernel_rfl) (by kernel_rfl) (by omega) rfl
              obtain ⟨y4_0, y4_1, y4_2, rfl⟩ := len3 hl4
              refine wl (eM 107 (v := .agg #[.int .i64 y4_0, .int .i64 y4_1, .int .i64 y4_2]) hF hM (by kernel_rfl) (yld_index (X := .agg #[.int .i64 m0, .int .i64 m1, .int .i64 m2, .int .i64 (m0 % 18446744073709551616 % 9999), .int .i64 (m1 % 18446744073709551616 % ((1 + bu % 1048576) * 1048576 + 1)), .int .i64 (m2 % 18446744073709551616 % ((1 + n0 % 65536) * 1048576 + 1)), .int .i64 (m0 % 18446744073709551616 % 9999), .int .i64 m1, .int .i64 (m2 % 18446744073709551616 % ((1 + n0 % 65536) * 1048576 + 1)), .int .i64 (m0 % 18446744073709551616 % 9999), .int .i64 (m1 % 18446744073709551616 % ((1 + bu % 1048576) * 1048576 + 1)), .int .i64 m2, .int .i64 m0, .int .i64 (m1 % 18446744073709551616 % ((1 + bu % 1048576) * 1048576 + 1)), .int .i64 (m2 % 18446744073709551616 % ((1 + n0 % 65536) * 1048576 + 1)), .int .i64 0, .int .i64 (newC y2_0 y2_1 y2_2 y2_3), .int .i64 (newP y2_0 y2_1 y2_2 y2_3)]) (I := .int .i64 ((k105 : Int))) hF rfl (by kernel_rfl) (by kernel_rfl) (by kernel_rfl) (fun w => hy4 w)) fun a w hF hM => ?_)
              refine wl (eN 24 15 (t := 31) (fun b => .pointer (some ⟨b, 0, none⟩)) #[.int .i64 0, .int .i64 0, .int .i64 0] hF hM (by kernel_rfl) (fun _ => by kernel_rfl) fun bb15 a w hF hM => ?_)
              refine wl (sStore (i := 15) (off := 0) (cs' := #[.int .i64 y4_0, .int .i64 y4_1, .int .i64 y4_2]) hF hM (by kernel_rfl) rfl rfl (by kernel_rfl) (by kernel_rfl) rfl (by kernel_rfl) fun w hM => ?_)
              refine wpList_nil ?_
              refine hK22 _ _ ?_
              refine wp_seq_k fun K23 hK23 => ?_
              refine wp_seq_k fun K24 hK24 => ?_
              refine rQ hM (by kernel_rfl) (by kernel_rfl) ?_
              refine eQ 108 (v0 := .pointer (some ⟨bb12, 0, none⟩)) (v := .pointer (some ⟨bb12, 0, none⟩)) hF (by kernel_rfl) (fun _ => by kernel_rfl) rfl fun a hF => ?_
              refine eQL 109 12 0 (v := .agg #[.int .i64 y2_0, .int .i64 y2_1]) hF (by kernel_rfl) rfl rfl (by kernel_rfl) (by kernel_rfl) fun a hF => ?_
              refine eQ 110 (v0 := .pointer (some ⟨bb12, 2, none⟩)) (v := .pointer (some ⟨bb12, 2, none⟩)) hF (by kernel_rfl) (fun _ => by kernel_rfl) rfl fun a hF => ?_
              refine eQL 111 12 2 (v := .agg #[.int .i64 y2_2, .int .i64 y2_3]) hF (by kernel_rfl) rfl rfl (by kernel_rfl) (by kernel_rfl) fun a hF => ?_
              refine eQL 112 15 0 (v := .agg #[.int .i64 y4_0, .int .i64 y4_1, .int .i64 y4_2]) hF (by kernel_rfl) rfl rfl (by kernel_rfl) (by kernel_rfl) fun a hF => ?_
              refine eQ2 113 (v := .int .i64 (mtE y2_0 y2_1 y2_2 y2_3 y4_0 y4_1 y4_2)) hF (by kernel_rfl) (yld_call (f := 13) (args := #[.agg #[.int .i64 y2_0, .int .i64 y2_1], .agg #[.int .i64 y2_2, .int .i64 y2_3], .agg #[.int .i64 y4_0, .int .i64 y4_1, .int .i64 y4_2]]) hF (by kernel_rfl) (fun _ => by kernel_rfl) (fun w hM => meterCheck_w y2_0 y2_1 y2_2 y2_3 y4_0 y4_1 y4_2 w)) fun a hF => ?_
              refine eQ 114 (v0 := .pointer (some ⟨bb12, 0, none⟩)) (v := .pointer (some ⟨bb12, 0, none⟩)) hF (by kernel_rfl) (fun _ => by kernel_rfl) rfl fun a hF => ?_
              refine eQL 115 12 0 (v := .agg #[.int .i64 y2_0, .int .i64 y2_1]) hF (by kernel_rfl) rfl rfl (by kernel_rfl) (by kernel_rfl) fun a hF => ?_
              refine eQ 116 (v0 := .pointer (some ⟨bb12, 2, none⟩)) (v := .pointer (some ⟨bb12, 2, none⟩)) hF (by kernel_rfl) (fun _ => by kernel_rfl) rfl fun a hF => ?_
              refine eQL 117 12 2 (v := .agg #[.int .i64 y2_2, .int .i64 y2_3]) hF (by kernel_rfl) rfl rfl (by kernel_rfl) (by kernel_rfl) fun a hF => ?_
              refine eQL 118 15 0 (v := .agg #[.int .i64 y4_0, .int .i64 y4_1, .int .i64 y4_2]) hF (by kernel_rfl) rfl rfl (by kernel_rfl) (by kernel_rfl) fun a hF => ?_
              refine eQ2 119 (v := .int .i64 (mtE y2_0 y2_1 y2_2 y2_3 y4_0 y4_1 y4_2)) hF (by kernel_rfl) (yld_call (f := 14) (args := #[.agg #[.int .i64 y2_0, .int .i64 y2_1], .agg #[.int .i64 y2_2, .int .i64 y2_3], .agg #[.int .i64 y4_0, .int .i64 y4_1, .int .i64 y4_2]]) hF (by kernel_rfl) (fun _ => by kernel_rfl) (fun w hM => refCheck_w y2_0 y2_1 y2_2 y2_3 y4_0 y4_1 y4_2 w)) fun a hF => ?_
              refine eQ 120 (v0 := .bool (!decide (mtE y2_0 y2_1 y2_2 y2_3 y4_0 y4_1 y4_2 = mtE y2_0 y2_1 y2_2 y2_3 y4_0 y4_1 y4_2))) (v := .bool false) hF (by kernel_rfl) (fun _ => by kernel_rfl) (nT (by omega)) fun a hF => ?_
              refine wpQuiet_nil ?_
              intro w hM
              refine hK24 _ _ ?_
              refine cF hF (by kernel_rfl) (by kernel_rfl) ?_
              refine wp_skip ?_
              refine hK23 _ _ ?_
              refine wp_seq_k fun K25 hK25 => ?_
              refine wp_region_lit ?_
              refine wl (eL 121 5 0 (v := .agg #[.int .i64 x0, .int .i64 x1]) hF hM (by kernel_rfl) rfl rfl (by kernel_rfl) (by kernel_rfl) fun a w hF hM => ?_)
              refine sB 1 [(122, .pointer (some ⟨bb15, 0, none⟩))] hF (by kernel_rfl) fun a hF => ?_
              refine wl (eL 123 15 0 (v := .int .i64 y4_0) hF hM (by kernel_rfl) rfl rfl (by kernel_rfl) (by kernel_rfl) fun a w hF hM => ?_)
              refine sB 1 [(124, .pointer (some ⟨bb5, 1, none⟩))] hF (by kernel_rfl) fun a hF => ?_
              refine wl (eL 125 5 1 (v := .int .i64 x1) hF hM (by kernel_rfl) rfl rfl (by kernel_rfl) (by kernel_rfl) fun a w hF hM => ?_)
              refine sB 2 [(126, .agg #[.int .i64 y4_0, .int .i64 x1]), (127, .pointer (some ⟨bb5, 0, none⟩))] hF (by kernel_rfl) fun a hF => ?_
              refine wl (eL 128 5 0 (v := .int .i64 x0) hF hM (by kernel_rfl) rfl rfl (by kernel_rfl) (by kernel_rfl) fun a w hF hM => ?_)
              refine wl (eP 129 (v0 := .int .u64 (IntKind.u64.wrap x0)) (v := .int .u64 (x0 % 18446744073709551616)) hF (by kernel_rfl) (fun _ => by kernel_rfl) (vi (u64_wrap _)) fun a hF => ?_)
              refine wl (eM 130 (v := .int .u64 (x0 % 18446744073709551616 % 1048576)) hF hM (by kernel_rfl) (yld_rem (x0 % 18446744073709551616) 1048576 hF rfl (by kernel_rfl) (by kernel_rfl) (by kernel_rfl) (by decide) (Int.tmod_eq_emod_of_nonneg (by omega))) fun a w hF hM => ?_)
              refine wl (eP 131 (v0 := .int .i64 (IntKind.i64.wrap (x0 % 18446744073709551616 % 1048576))) (v := .int .i64 (x0 % 18446744073709551616 % 1048576)) hF (by kernel_rfl) (fun _ => by kernel_rfl) (vi (IntWalk.i64_in _ (by omega))) fun a hF => ?_)
              refine sB 1 [(132, .pointer (some ⟨bb5, 1, none⟩))] hF (by kernel_rfl) fun a hF => ?_
              refine wl (eL 133 5 1 (v := .int .i64 x1) hF hM (by kernel_rfl) rfl rfl (by kernel_rfl) (by kernel_rfl) fun a w hF hM => ?_)
              refine wl (eP 134 (v0 := .int .u64 (IntKind.u64.wrap x1)) (v := .int .u64 (x1 % 18446744073709551616)) hF (by kernel_rfl) (fun _ => by kernel_rfl) (vi (u64_wrap _)) fun a hF => ?_)
              refine wl (eM 135 (v := .int .u64 (x1 % 18446744073709551616 % 2000)) hF hM (by kernel_rfl) (yld_rem (x1 % 18446744073709551616) 2000 hF rfl (by kernel_rfl) (by kernel_rfl) (by kernel_rfl) (by decide) (Int.tmod_eq_emod_of_nonneg (by omega))) fun a w hF hM => ?_)
              refine wl (eP 136 (v0 := .int .i64 (IntKind.i64.wrap (x1 % 18446744073709551616 % 2000))) (v := .int .i64 (x1 % 18446744073709551616 % 2000)) hF (by kernel_rfl) (fun _ => by kernel_rfl) (vi (IntWalk.i64_in _ (by omega))) fun a hF => ?_)
              refine wl (eP 137 (v0 := .int .i64 (IntKind.i64.wrap (1 + x1 % 18446744073709551616 % 2000))) (v := .int .i64 (1 + x1 % 18446744073709551616 % 2000)) hF (by kernel_rfl) (fun _ => by kernel_rfl) (wi (by omega)) fun a hF => ?_)
              refine sB 2 [(138, .agg #[.int .i64 (x0 % 18446744073709551616 % 1048576), .int .i64 (1 + x1 % 18446744073709551616 % 2000)]), (139, .pointer (some ⟨bb5, 0, none⟩))] hF (by kernel_rfl) fun a hF => ?_
              refine wl (eL 140 5 0 (v := .int .i64 x0) hF hM (by kernel_rfl) rfl rfl (by kernel_rfl) (by kernel_rfl) fun a w hF hM => ?_)
              refine sB 3 [(141, .agg #[.int .i64 x0, .int .i64 100]), (142, .agg #[.int .i64 x0, .int .i64 x1, .int .i64 y4_0, .int .i64 x1, .int .i64 (x0 % 18446744073709551616 % 1048576), .int .i64 (1 + x1 % 18446744073709551616 % 2000), .int .i64 x0, .int .i64 100]), (143, .int .i64 0)] hF (by kernel_rfl) fun a hF => ?_
              refine wpList_nil ?_
              refine hK25 _ _ ?_
              refine wp_block ?_
              refine wp_loop_k (G := Nat) (fun gg a w => Fr 191 [(143, some (.int .i64 (gg : Int))), (8, some (.pointer (some ⟨bb4, 0, none⟩))), (9, some (.pointer (some ⟨bb5, 0, none⟩))), (13, some (.pointer (some ⟨bb8, 0, none⟩))), (14, some (.pointer (some ⟨bb9, 0, none⟩))), (15, some (.pointer (some ⟨bb10, 0, none⟩))), (16, some (.pointer (some ⟨bb11, 0, none⟩))), (18, some (.pointer (some ⟨bb12, 0, none⟩))), (19, some (.pointer (some ⟨bb13, 0, none⟩))), (20, some (.int .i64 (newE y2_0 y2_1 y2_2 y2_3))), (21, some (.pointer (some ⟨bb14, 0, none⟩))), (22, some (.int .i64 (newE y2_0 y2_1 y2_2 y2_3))), (24, some (.pointer (some ⟨bb15, 0, none⟩))), (70, some (.agg #[.int .i64 b0, .int .i64 b1, .int .i64 b2, .int .i64 b3, .int .i64 (1 + bu % 1048576), .int .i64 (1 + ra % 2097152), .int .i64 (1 + n0 % 65536), .int .i64 (min 2097152 (1 + ra % 2097152 + n1 % 524288)), .int .i64 (1 + n0 % 65536), .int .i64 (min 2097152 (1 + ra % 2097152 + n1 % 524288)), .int .i64 (1 + bu % 1048576), .int .i64 (1 + ra % 2097152), .int .i64 (1 + bu % 1048576), .int .i64 (1 + ra % 2097152), .int .i64 b2, .int .i64 b3])), (71, some (.int .i64 (k71 : Int))), (72, some (.bool true)), (73, some (.agg #[.int .i64 y2_0, .int .i64 y2_1, .int .i64 y2_2, .int .i64 y2_3])), (74, some (.tuple #[.agg #[.int .i64 0, .int .i64 (newC y2_0 y2_1 y2_2 y2_3), .int .i64 (newP y2_0 y2_1 y2_2 y2_3)], .int .i64 (newE y2_0 y2_1 y2_2 y2_3)])), (75, some (.pointer (some ⟨bb12, 0, none⟩))), (76, some (.agg #[.int .i64 y2_0, .int .i64 y2_1])), (77, some (.pointer (some ⟨bb12, 2, none⟩))), (78, some (.agg #[.int .i64 y2_2, .int .i64 y2_3])), (79, some (.tuple #[.agg #[.int .i64 0, .int .i64 (newC y2_0 y2_1 y2_2 y2_3), .int .i64 (newP y2_0 y2_1 y2_2 y2_3)], .int .i64 (newE y2_0 y2_1 y2_2 y2_3)])), (80, some (.agg #[.int .i64 0, .int .i64 (newC y2_0 y2_1 y2_2 y2_3), .int .i64 (newP y2_0 y2_1 y2_2 y2_3)])), (81, some (.int .i64 (newE y2_0 y2_1 y2_2 y2_3))), (82, some (.tuple #[.agg #[.int .i64 0, .int .i64 (newC y2_0 y2_1 y2_2 y2_3), .int .i64 (newP y2_0 y2_1 y2_2 y2_3)], .int .i64 (newE y2_0 y2_1 y2_2 y2_3)])), (83, some (.pointer (some ⟨bb12, 0, none⟩))), (84, some (.agg #[.int .i64 y2_0, .int .i64 y2_1])), (85, some (.pointer (some ⟨bb12, 2, none⟩))), (86, some (.agg #[.int .i64 y2_2, .int .i64 y2_3])), (87, some (.tuple #[.agg #[.int .i64 0, .int .i64 (newC y2_0 y2_1 y2_2 y2_3), .int .i64 (newP y2_0 y2_1 y2_2 y2_3)], .int .i64 (newE y2_0 y2_1 y2_2 y2_3)])), (88, some (.agg #[.int .i64 0, .int .i64 (newC y2_0 y2_1 y2_2 y2_3), .int .i64 (newP y2_0 y2_1 y2_2 y2_3)])), (89, some (.int .i64 (newE y2_0 y2_1 y2_2 y2_3))), (90, some (.agg #[.int .i64 0, .int .i64 (newC y2_0 y2_1 y2_2 y2_3), .int .i64 (newP y2_0 y2_1 y2_2 y2_3)])), (91, some (.agg #[.int .i64 0, .int .i64 (newC y2_0 y2_1 y2_2 y2_3), .int .i64 (newP y2_0 y2_1 y2_2 y2_3)])), (92, some (.bool false)), (93, some (.bool false)), (94, some (.int .i64 (newE y2_0 y2_1 y2_2 y2_3))), (95, some (.int .i64 (newE y2_0 y2_1 y2_2 y2_3))), (96, some (.bool false)), (97, some (.bool false)), (98, some (.agg #[.int .i64 m0, .int .i64 m1, .int .i64 m2])), (99, some (.agg #[.int .i64 (m0 % 18446744073709551616 % 9999), .int .i64 (m1 % 18446744073709551616 % ((1 + bu % 1048576) * 1048576 + 1)), .int .i64 (m2 % 18446744073709551616 % ((1 + n0 % 65536) * 1048576 + 1))])), (100, some (.agg #[.int .i64 (m0 % 18446744073709551616 % 9999), .int .i64 m1, .int .i64 (m2 % 18446744073709551616 % ((1 + n0 % 65536) * 1048576 + 1))])), (101, some (.agg #[.int .i64 (m0 % 18446744073709551616 % 9999), .int .i64 (m1 % 18446744073709551616 % ((1 + bu % 1048576) * 1048576 + 1)), .int .i64 m2])), (102, some (.agg #[.int .i64 m0, .int .i64 (m1 % 18446744073709551616 % ((1 + bu % 1048576) * 1048576 + 1)), .int .i64 (m2 % 18446744073709551616 % ((1 + n0 % 65536) * 1048576 + 1))])), (103, some (.agg #[.int .i64 0, .int .i64 (newC y2_0 y2_1 y2_2 y2_3), .int .i64 (newP y2_0 y2_1 y2_2 y2_3)])), (104, some (.agg #[.int .i64 m0, .int .i64 m1, .int .i64 m2, .int .i64 (m0 % 18446744073709551616 % 9999), .int .i64 (m1 % 18446744073709551616 % ((1 + bu % 1048576) * 1048576 + 1)), .int .i64 (m2 % 18446744073709551616 % ((1 + n0 % 65536) * 1048576 + 1)), .int .i64 (m0 % 18446744073709551616 % 9999), .int .i64 m1, .int .i64 (m2 % 18446744073709551616 % ((1 + n0 % 65536) * 1048576 + 1)), .int .i64 (m0 % 18446744073709551616 % 9999), .int .i64 (m1 % 18446744073709551616 % ((1 + bu % 1048576) * 1048576 + 1)), .int .i64 m2, .int .i64 m0, .int .i64 (m1 % 18446744073709551616 % ((1 + bu % 1048576) * 1048576 + 1)), .int .i64 (m2 % 18446744073709551616 % ((1 + n0 % 65536) * 1048576 + 1)), .int .i64 0, .int .i64 (newC y2_0 y2_1 y2_2 y2_3), .int .i64 (newP y2_0 y2_1 y2_2 y2_3)])), (105, some (.int .i64 (k105 : Int))), (106, some (.bool true)), (107, some (.agg #[.int .i64 y4_0, .int .i64 y4_1, .int .i64 y4_2])), (108, some (.pointer (some ⟨bb12, 0, none⟩))), (109, some (.agg #[.int .i64 y2_0, .int .i64 y2_1])), (110, some (.pointer (some ⟨bb12, 2, none⟩))), (111, some (.agg #[.int .i64 y2_2, .int .i64 y2_3])), (112, some (.agg #[.int .i64 y4_0, .int .i64 y4_1, .int .i64 y4_2])), (113, some (.int .i64 (mtE y2_0 y2_1 y2_2 y2_3 y4_0 y4_1 y4_2))), (114, some (.pointer (some ⟨bb12, 0, none⟩))), (115, some (.agg #[.int .i64 y2_0, .int .i64 y2_1])), (116, some (.pointer (some ⟨bb12, 2, none⟩))), (117, some (.agg #[.int .i64 y2_2, .int .i64 y2_3])), (118, some (.agg #[.int .i64 y4_0, .int .i64 y4_1, .int .i64 y4_2])), (119, some (.int .i64 (mtE y2_0 y2_1 y2_2 y2_3 y4_0 y4_1 y4_2))), (120, some (.bool false)), (121, some (.agg #[.int .i64 x0, .int .i64 x1])), (122, some (.pointer (some ⟨bb15, 0, none⟩))), (123, some (.int .i64 y4_0)), (124, some (.pointer (some ⟨bb5, 1, none⟩))), (125, some (.int .i64 x1)), (126, some (.agg #[.int .i64 y4_0, .int .i64 x1])), (127, some (.pointer (some ⟨bb5, 0, none⟩))), (128, some (.int .i64 x0)), (129, some (.int .u64 (x0 % 18446744073709551616))), (130, some (.int .u64 (x0 % 18446744073709551616 % 1048576))), (131, some (.int .i64 (x0 % 18446744073709551616 % 1048576))), (132, some (.pointer (some ⟨bb5, 1, none⟩))), (133, some (.int .i64 x1)), (134, some (.int .u64 (x1 % 18446744073709551616))), (135, some (.int .u64 (x1 % 18446744073709551616 % 2000))), (136, some (.int .i64 (x1 % 18446744073709551616 % 2000))), (137, some (.int .i64 (1 + x1 % 18446744073709551616 % 2000))), (138, some (.agg #[.int .i64 (x0 % 18446744073709551616 % 1048576), .int .i64 (1 + x1 % 18446744073709551616 % 2000)])), (139, some (.pointer (some ⟨bb5, 0, none⟩))), (140, some (.int .i64 x0)), (141, some (.agg #[.int .i64 x0, .int .i64 100])), (142, some (.agg #[.int .i64 x0, .int .i64 x1, .int .i64 y4_0, .int .i64 x1, .int .i64 (x0 % 18446744073709551616 % 1048576), .int .i64 (1 + x1 % 18446744073709551616 % 2000), .int .i64 x0, .int .i64 100]))] a ∧ Mem w0.heap.size w0 [(1, some (.row bb1 24 #[.int .i64 b0, .int .i64 b1, .int .i64 b2, .int .i64 b3])), (2, some (.row bb2 28 #[.int .u32 bu, .int .u32 ra, g, s])), (3, some (.row bb3 29 #[.int .u32 n0, .int .u32 n1])), (4, some (.row bb4 31 #[.int .i64 m0, .int .i64 m1, .int .i64 m2])), (5, some (.row bb5 33 #[.int .i64 x0, .int .i64 x1])), (6, some (.row bb6 23 #[.int .i64 (1 + bu % 1048576), .int .i64 (1 + ra % 2097152)])), (7, some (.row bb7 23 #[.int .i64 (1 + n0 % 65536), .int .i64 (min 2097152 (1 + ra % 2097152 + n1 % 524288))])), (8, some (.row bb8 31 #[.int .i64 (m0 % 18446744073709551616 % 9999), .int .i64 (m1 % 18446744073709551616 % ((1 + bu % 1048576) * 1048576 + 1)), .int .i64 (m2 % 18446744073709551616 % ((1 + n0 % 65536) * 1048576 + 1))])), (9, some (.row bb9 31 #[.int .i64 (m0 % 18446744073709551616 % 9999), .int .i64 m1, .int .i64 (m2 % 18446744073709551616 % ((1 + n0 % 65536) * 1048576 + 1))])), (10, some (.row bb10 31 #[.int .i64 (m0 % 18446744073709551616 % 9999), .int .i64 (m1 % 18446744073709551616 % ((1 + bu % 1048576) * 1048576 + 1)), .int .i64 m2])), (11, some (.row bb11 31 #[.int .i64 m0, .int .i64 (m1 % 18446744073709551616 % ((1 + bu % 1048576) * 1048576 + 1)), .int .i64 (m2 % 18446744073709551616 % ((1 + n0 % 65536) * 1048576 + 1))])), (12, some (.row bb12 24 #[.int .i64 y2_0, .int .i64 y2_1, .int .i64 y2_2, .int .i64 y2_3])), (13, some (.row bb13 31 #[.int .i64 0, .int .i64 (newC y2_0 y2_1 y2_2 y2_3), .int .i64 (newP y2_0 y2_1 y2_2 y2_3)])), (14, some (.row bb14 31 #[.int .i64 0, .int .i64 (newC y2_0 y2_1 y2_2 y2_3), .int .i64 (newP y2_0 y2_1 y2_2 y2_3)])), (15, some (.row bb15 31 #[.int .i64 y4_0, .int .i64 y4_1, .int .i64 y4_2]))] w ∧ ((gg : Int) ≤ 4)) (fun gg => 4 - gg) (0) ?_ ?_
              · refine ⟨(((((((((((((((((((((((((((((((((((((((((((((((((((((((((((((((((((((((((((((((((((((((Fr.nil hF).c hF (i := 142) rfl rfl).c hF (i := 141) rfl rfl).c hF (i := 140) rfl rfl).c hF (i := 139) rfl rfl).c hF (i := 138) rfl rfl).c hF (i := 137) rfl rfl).c hF (i := 136) rfl rfl).c hF (i := 135) rfl rfl).c hF (i := 134) rfl rfl).c hF (i := 133) rfl rfl).c hF (i := 132) rfl rfl).c hF (i := 131) rfl rfl).c hF (i := 130) rfl rfl).c hF (i := 129) rfl rfl).c hF (i := 128) rfl rfl).c hF (i := 127) rfl rfl).c hF (i := 126) rfl rfl).c hF (i := 125) rfl rfl).c hF (i := 124) rfl rfl).c hF (i := 123) rfl rfl).c hF (i := 122) rfl rfl).c hF (i := 121) rfl rfl).c hF (i := 120) rfl rfl).c hF (i := 119) rfl rfl).c hF (i := 118) rfl rfl).c hF (i := 117) rfl rfl).c hF (i := 116) rfl rfl).c hF (i := 115) rfl rfl).c hF (i := 114) rfl rfl).c hF (i := 113) rfl rfl).c hF (i := 112) rfl rfl).c hF (i := 111) rfl rfl).c hF (i := 110) rfl rfl).c hF (i := 109) rfl rfl).c hF (i := 108) rfl rfl).c hF (i := 107) rfl rfl).c hF (i := 106) rfl rfl).c hF (i := 105) rfl rfl).c hF (i := 104) rfl rfl).c hF (i := 103) rfl rfl).c hF (i := 102) rfl rfl).c hF (i := 101) rfl rfl).c hF (i := 100) rfl rfl).c hF (i := 99) rfl rfl).c hF (i := 98) rfl rfl).c hF (i := 97) rfl rfl).c hF (i := 96) rfl rfl).c hF (i := 95) rfl rfl).c hF (i := 94) rfl rfl).c hF (i := 93) rfl rfl).c hF (i := 92) rfl rfl).c hF (i := 91) rfl rfl).c hF (i := 90) rfl rfl).c hF (i := 89) rfl rfl).c hF (i := 88) rfl rfl).c hF (i := 87) rfl rfl).c hF (i := 86) rfl rfl).c hF (i := 85) rfl rfl).c hF (i := 84) rfl rfl).c hF (i := 83) rfl rfl).c hF (i := 82) rfl rfl).c hF (i := 81) rfl rfl).c hF (i := 80) rfl rfl).c hF (i := 79) rfl rfl).c hF (i := 78) rfl rfl).c hF (i := 77) rfl rfl).c hF (i := 76) rfl rfl).c hF (i := 75) rfl rfl).c hF (i := 74) rfl rfl).c hF (i := 73) rfl rfl).c hF (i := 72) rfl rfl).c hF (i := 71) rfl rfl).c hF (i := 70) rfl rfl).c hF (i := 24) rfl rfl).c hF (i := 22) rfl rfl).c hF (i := 21) rfl rfl).c hF (i := 20) rfl rfl).c hF (i := 19) rfl rfl).c hF (i := 18) rfl rfl).c hF (i := 16) rfl rfl).c hF (i := 15) rfl rfl).c hF (i := 14) rfl rfl).c hF (i := 13) rfl rfl).c hF (i := 9) rfl rfl).c hF (i := 8) rfl rfl).c hF (i := 143) rfl (vi (by omega))), (hM.sub (((((((((((((((Sub.nil.c (k := 15) rfl rfl).c (k := 14) rfl rfl).c (k := 13) rfl rfl).c (k := 12) rfl rfl).c (k := 11) rfl rfl).c (k := 10) rfl rfl).c (k := 9) rfl rfl).c (k := 8) rfl rfl).c (k := 7) rfl rfl).c (k := 6) rfl rfl).c (k := 5) rfl rfl).c (k := 4) rfl rfl).c (k := 3) rfl rfl).c (k := 2) rfl rfl).c (k := 1) rfl rfl)), (show (0 : Int) ≤ 4 from by omega)⟩
              · intro gg a w hI
                intro K26 hK26
                obtain ⟨k143, rfl⟩ : ∃ x, x = gg := ⟨_, rfl⟩
                try dsimp only at hI hK26
                obtain ⟨hF, hM, hz5⟩ := hI
                refine wp_seq_k fun K27 hK27 => ?_
                refine wp_region_lit ?_
                refine sB 1 [(144, .bool (decide ((k143 : Int) < 4)))] hF (by kernel_rfl) fun a hF => ?_
                refine wpList_nil ?_
                refine hK27 _ _ ?_
                refine wp_seq_k fun K28 hK28 => ?_
                by_cases hz6 : (k143 : Int) < 4
                · skip
                  have hF := hF.c hF (i := 144) (v := .bool true) rfl (bT hz6)
                  refine cT hF (by kernel_rfl) (by kernel_rfl) ?_
                  refine wp_skip ?_
                  refine hK28 _ _ ?_
                  refine wp_seq_k fun K29 hK29 => ?_
                  refine wp_block ?_
                  refine wp_seq_k fun K30 hK30 => ?_
                  refine wp_region_lit ?_
                  obtain ⟨ys6, hl6, hm6, hy6⟩ := idx_agg (P := Try.prog) (t := 45) (e := 33) (len := 4) (m := 2) (kd := .i64) [x0, x1, y4_0, x1, x0 % 18446744073709551616 % 1048576, 1 + x1 % 18446744073709551616 % 2000, x0, 100] ((k143 : Int)) (by kernel_rfl) (by kernel_rfl) (by omega) rfl
                  obtain ⟨y6_0, y6_1, rfl⟩ := len2 hl6
                  refine wl (eM 145 (v := .agg #[.int .i64 y6_0, .int .i64 y6_1]) hF hM (by kernel_rfl) (yld_index (X := .agg #[.int .i64 x0, .int .i64 x1, .int .i64 y4_0, .int .i64 x1, .int .i64 (x0 % 18446744073709551616 % 1048576), .int .i64 (1 + x1 % 18446744073709551616 % 2000), .int .i64 x0, .int .i64 100]) (I := .int .i64 ((k143 : Int))) hF rfl (by kernel_rfl) (by kernel_rfl) (by kernel_rfl) (fun w => hy6 w)) fun a w hF hM => ?_)
                  refine wl (eN 26 16 (t := 33) (fun b => .pointer (some ⟨b, 0, none⟩)) #[.int .i64 0, .int .i64 0] hF hM (by kernel_rfl) (fun _ => by kernel_rfl) fun bb16 a w hF hM => ?_)
                  refine wl (sStore (i := 16) (off := 0) (cs' := #[.int .i64 y6_0, .int .i64 y6_1]) hF hM (by kernel_rfl) rfl rfl (by kernel_rfl) (by kernel_rfl) rfl (by kernel_rfl) fun w hM => ?_)
                  refine wpList_nil ?_
                  refine hK30 _ _ ?_
                  refine wp_seq_k fun K31 hK31 => ?_
                  refine wp_region_lit ?_
                  refine sB 1 [(147, .pointer (some ⟨bb12, 0, none⟩))] hF (by kernel_rfl) fun a hF => ?_
                  refine wl (eL 148 12 0 (v := .agg #[.int .i64 y2_0, .int .i64 y2_1]) hF hM (by kernel_rfl) rfl rfl (by kernel_rfl) (by kernel_rfl) fun a w hF hM => ?_)
                  refine sB 1 [(149, .pointer (some ⟨bb12, 2, none⟩))] hF (by kernel_rfl) fun a hF => ?_
                  refine wl (eL 150 12 2 (v := .agg #[.int .i64 y2_2, .int .i64 y2_3]) hF hM (by kernel_rfl) rfl rfl (by kernel_rfl) (by kernel_rfl) fun a w hF hM => ?_)
                  refine wl (eL 151 15 0 (v := .agg #[.int .i64 y4_0, .int .i64 y4_1, .int .i64 y4_2]) hF hM (by kernel_rfl) rfl rfl (by kernel_rfl) (by kernel_rfl) fun a w hF hM => ?_)
                  refine sB 1 [(152, .pointer (some ⟨bb16, 0, none⟩))] hF (by kernel_rfl) fun a hF => ?_
                  refine wl (eL 153 16 0 (v := .int .i64 y6_0) hF hM (by kernel_rfl) rfl rfl (by kernel_rfl) (by kernel_rfl) fun a w hF hM => ?_)
                  refine sB 1 [(154, .pointer (some ⟨bb16, 1, none⟩))] hF (by kernel_rfl) fun a hF => ?_
                  refine wl (eL 155 16 1 (v := .int .i64 y6_1) hF hM (by kernel_rfl) rfl rfl (by kernel_rfl) (by kernel_rfl) fun a w hF hM => ?_)
                  refine wl (eM 156 (v := .tuple #[.int .i64 (mkCol y2_0 y2_1 y2_2 y2_3 y4_0 y4_1 y4_2 y6_0 y6_1), .agg #[.int .i64 (mkL y2_0 y2_1 y2_2 y2_3 y4_0 y4_1 y4_2 y6_0 y6_1), .int .i64 (mkC y2_0 y2_1 y2_2 y2_3 y4_0 y4_1 y4_2 y6_0 y6_1), .int .i64 (mkP y2_0 y2_1 y2_2 y2_3 y4_0 y4_1 y4_2 y6_0 y6_1)], .int .i64 (mkE y2_0 y2_1 y2_2 y2_3 y4_0 y4_1 y4_2 y6_0 y6_1)]) hF hM (by kernel_rfl) (yld_call (f := 15) (args := #[.agg #[.int .i64 y2_0, .int .i64 y2_1], .agg #[.int .i64 y2_2, .int .i64 y2_3], .agg #[.int .i64 y4_0, .int .i64 y4_1, .int .i64 y4_2], .int .i64 y6_0, .int .i64 y6_1]) hF (by kernel_rfl) (fun _ => by kernel_rfl) (fun w hM => meterMark_w y2_0 y2_1 y2_2 y2_3 y4_0 y4_1 y4_2 y6_0 y6_1 w)) fun a w hF hM => ?_)
                  refine sB 4 [(146, .tuple #[.int .i64 (mkCol y2_0 y2_1 y2_2 y2_3 y4_0 y4_1 y4_2 y6_0 y6_1), .agg #[.int .i64 (mkL y2_0 y2_1 y2_2 y2_3 y4_0 y4_1 y4_2 y6_0 y6_1), .int .i64 (mkC y2_0 y2_1 y2_2 y2_3 y4_0 y4_1 y4_2 y6_0 y6_1), .int .i64 (mkP y2_0 y2_1 y2_2 y2_3 y4_0 y4_1 y4_2 y6_0 y6_1)], .int .i64 (mkE y2_0 y2_1 y2_2 y2_3 y4_0 y4_1 y4_2 y6_0 y6_1)]), (157, .int .i64 (mkCol y2_0 y2_1 y2_2 y2_3 y4_0 y4_1 y4_2 y6_0 y6_1)), (158, .agg #[.int .i64 (mkL y2_0 y2_1 y2_2 y2_3 y4_0 y4_1 y4_2 y6_0 y6_1), .int .i64 (mkC y2_0 y2_1 y2_2 y2_3 y4_0 y4_1 y4_2 y6_0 y6_1), .int .i64 (mkP y2_0 y2_1 y2_2 y2_3 y4_0 y4_1 y4_2 y6_0 y6_1)]), (159, .int .i64 (mkE y2_0 y2_1 y2_2 y2_3 y4_0 y4_1 y4_2 y6_0 y6_1))] hF (by kernel_rfl) fun a hF => ?_
                  refine wl (eN 28 17 (t := 31) (fun b => .pointer (some ⟨b, 0, none⟩)) #[.int .i64 0, .int .i64 0, .int .i64 0] hF hM (by kernel_rfl) (fun _ => by kernel_rfl) fun bb17 a w hF hM => ?_)
                  refine sB 1 [(27, .int .i64 (mkCol y2_0 y2_1 y2_2 y2_3 y4_0 y4_1 y4_2 y6_0 y6_1))] hF (by kernel_rfl) fun a hF => ?_
                  refine wl (sStore (i := 17) (off := 0) (cs' := #[.int .i64 (mkL y2_0 y2_1 y2_2 y2_3 y4_0 y4_1 y4_2 y6_0 y6_1), .int .i64 (mkC y2_0 y2_1 y2_2 y2_3 y4_0 y4_1 y4_2 y6_0 y6_1), .int .i64 (mkP y2_0 y2_1 y2_2 y2_3 y4_0 y4_1 y4_2 y6_0 y6_1)]) hF hM (by kernel_rfl) rfl rfl (by kernel_rfl) (by kernel_rfl) rfl (by kernel_rfl) fun w hM => ?_)
                  refine sB 1 [(29, .int .i64 (mkE y2_0 y2_1 y2_2 y2_3 y4_0 y4_1 y4_2 y6_0 y6_1))] hF (by kernel_rfl) fun a hF => ?_
                  refine wpList_nil ?_
                  refine hK31 _ _ ?_
                  refine wp_seq_k fun K32 hK32 => ?_
                  refine wp_region_lit ?_
                  refine sB 1 [(161, .pointer (some ⟨bb12, 0, none⟩))] hF (by kernel_rfl) fun a hF => ?_
                  refine wl (eL 162 12 0 (v := .agg #[.int .i64 y2_0, .int .i64 y2_1]) hF hM (by kernel_rfl) rfl rfl (by kernel_rfl) (by kernel_rfl) fun a w hF hM => ?_)
                  refine sB 1 [(163, .pointer (some ⟨bb12, 2, none⟩))] hF (by kernel_rfl) fun a hF => ?_
                  refine wl (eL 164 12 2 (v := .agg #[.int .i64 y2_2, .int .i64 y2_3]) hF hM (by kernel_rfl) rfl rfl (by kernel_rfl) (by kernel_rfl) fun a w hF hM => ?_)
                  refine wl (eL 165 15 0 (v := .agg #[.int .i64 y4_0, .int .i64 y4_1, .int .i64 y4_2]) hF hM (by kernel_rfl) rfl rfl (by kernel_rfl) (by kernel_rfl) fun a w hF hM => ?_)
                  refine sB 1 [(166, .pointer (some ⟨bb16, 0, none⟩))] hF (by kernel_rfl) fun a hF => ?_
                  refine wl (eL 167 16 0 (v := .int .i64 y6_0) hF hM (by kernel_rfl) rfl rfl (by kernel_rfl) (by kernel_rfl) fun a w hF hM => ?_)
                  refine sB 1 [(168, .pointer (some ⟨bb16, 1, none⟩))] hF (by kernel_rfl) fun a hF => ?_
                  refine wl (eL 169 16 1 (v := .int .i64 y6_1) hF hM (by kernel_rfl) rfl rfl (by kernel_rfl) (by kernel_rfl) fun a w hF hM => ?_)
                  refine wl (eM 170 (v := .tuple #[.int .i64 (mkCol y2_0 y2_1 y2_2 y2_3 y4_0 y4_1 y4_2 y6_0 y6_1), .agg #[.int .i64 (mkL y2_0 y2_1 y2_2 y2_3 y4_0 y4_1 y4_2 y6_0 y6_1), .int .i64 (mkC y2_0 y2_1 y2_2 y2_3 y4_0 y4_1 y4_2 y6_0 y6_1), .int .i64 (mkP y2_0 y2_1 y2_2 y2_3 y4_0 y4_1 y4_2 y6_0 y6_1)], .int .i64 (mkE y2_0 y2_1 y2_2 y2_3 y4_0 y4_1 y4_2 y6_0 y6_1)]) hF hM (by kernel_rfl) (yld_call (f := 16) (args := #[.agg #[.int .i64 y2_0, .int .i64 y2_1], .agg #[.int .i64 y2_2, .int .i64 y2_3], .agg #[.int .i64 y4_0, .int .i64 y4_1, .int .i64 y4_2], .int .i64 y6_0, .int .i64 y6_1]) hF (by kernel_rfl) (fun _ => by kernel_rfl) (fun w hM => refMark_w y2_0 y2_1 y2_2 y2_3 y4_0 y4_1 y4_2 y6_0 y6_1 w)) fun a w hF hM => ?_)
                  refine sB 4 [(160, .tuple #[.int .i64 (mkCol y2_0 y2_1 y2_2 y2_3 y4_0 y4_1 y4_2 y6_0 y6_1), .agg #[.int .i64 (mkL y2_0 y2_1 y2_2 y2_3 y4_0 y4_1 y4_2 y6_0 y6_1), .int .i64 (mkC y2_0 y2_1 y2_2 y2_3 y4_0 y4_1 y4_2 y6_0 y6_1), .int .i64 (mkP y2_0 y2_1 y2_2 y2_3 y4_0 y4_1 y4_2 y6_0 y6_1)], .int .i64 (mkE y2_0 y2_1 y2_2 y2_3 y4_0 y4_1 y4_2 y6_0 y6_1)]), (171, .int .i64 (mkCol y2_0 y2_1 y2_2 y2_3 y4_0 y4_1 y4_2 y6_0 y6_1)), (172, .agg #[.int .i64 (mkL y2_0 y2_1 y2_2 y2_3 y4_0 y4_1 y4_2 y6_0 y6_1), .int .i64 (mkC y2_0 y2_1 y2_2 y2_3 y4_0 y4_1 y4_2 y6_0 y6_1), .int .i64 (mkP y2_0 y2_1 y2_2 y2_3 y4_0 y4_1 y4_2 y6_0 y6_1)]), (173, .int .i64 (mkE y2_0 y2_1 y2_2 y2_3 y4_0 y4_1 y4_2 y6_0 y6_1))] hF (by kernel_rfl) fun a hF => ?_
                  refine wl (eN 31 18 (t := 31) (fun b => .pointer (some ⟨b, 0, none⟩)) #[.int .i64 0, .int .i64 0, .int .i64 0] hF hM (by kernel_rfl) (fun _ => by kernel_rfl) fun bb18 a w hF hM => ?_)
                  refine sB 1 [(30, .int .i64 (mkCol y2_0 y2_1 y2_2 y2_3 y4_0 y4_1 y4_2 y6_0 y6_1))] hF (by kernel_rfl) fun a hF => ?_
                  refine wl (sStore (i := 18) (off := 0) (cs' := #[.int .i64 (mkL y2_0 y2_1 y2_2 y2_3 y4_0 y4_1 y4_2 y6_0 y6_1), .int .i64 (mkC y2_0 y2_1 y2_2 y2_3 y4_0 y4_1 y4_2 y6_0 y6_1), .int .i64 (mkP y2_0 y2_1 y2_2 y2_3 y4_0 y4_1 y4_2 y6_0 y6_1)]) hF hM (by kernel_rfl) rfl rfl (by kernel_rfl) (by kernel_rfl) rfl (by kernel_rfl) fun w hM => ?_)
                  refine sB 1 [(32, .int .i64 (mkE y2_0 y2_1 y2_2 y2_3 y4_0 y4_1 y4_2 y6_0 y6_1))] hF (by kernel_rfl) fun a hF => ?_
                  refine wpList_nil ?_
                  refine hK32 _ _ ?_
                  refine wp_seq_k fun K33 hK33 => ?_
                  refine wp_region_lit ?_
                  refine sB 2 [(174, .int .i64 (mkCol y2_0 y2_1 y2_2 y2_3 y4_0 y4_1 y4_2 y6_0 y6_1)), (175, .int .i64 (mkCol y2_0 y2_1 y2_2 y2_3 y4_0 y4_1 y4_2 y6_0 y6_1))] hF (by kernel_rfl) fun a hF => ?_
                  refine wl (eP 176 (v0 := .bool (!decide (mkCol y2_0 y2_1 y2_2 y2_3 y4_0 y4_1 y4_2 y6_0 y6_1 = mkCol y2_0 y2_1 y2_2 y2_3 y4_0 y4_1 y4_2 y6_0 y6_1))) (v := .bool false) hF (by kernel_rfl) (fun _ => by kernel_rfl) (nT (by omega)) fun a hF => ?_)
                  refine sB 1 [(177, .bool false)] hF (by kernel_rfl) fun a hF => ?_
                  refine wl (eL 178 17 0 (v := .agg #[.int .i64 (mkL y2_0 y2_1 y2_2 y2_3 y4_0 y4_1 y4_2 y6_0 y6_1), .int .i64 (mkC y2_0 y2_1 y2_2 y2_3 y4_0 y4_1 y4_2 y6_0 y6_1), .int .i64 (mkP y2_0 y2_1 y2_2 y2_3 y4_0 y4_1 y4_2 y6_0 y6_1)]) hF hM (by kernel_rfl) rfl rfl (by kernel_rfl) (by kernel_rfl) fun a w hF hM => ?_)
                  refine wl (eL 179 18 0 (v := .agg #[.int .i64 (mkL y2_0 y2_1 y2_2 y2_3 y4_0 y4_1 y4_2 y6_0 y6_1), .int .i64 (mkC y2_0 y2_1 y2_2 y2_3 y4_0 y4_1 y4_2 y6_0 y6_1), .int .i64 (mkP y2_0 y2_1 y2_2 y2_3 y4_0 y4_1 y4_2 y6_0 y6_1)]) hF hM (by kernel_rfl) rfl rfl (by kernel_rfl) (by kernel_rfl) fun a w hF hM => ?_)
                  refine wl (eM 180 (v := .bool false) hF hM (by kernel_rfl) ((yld_neq (C := Mem _ _ _) [mkL y2_0 y2_1 y2_2 y2_3 y4_0 y4_1 y4_2 y6_0 y6_1, mkC y2_0 y2_1 y2_2 y2_3 y4_0 y4_1 y4_2 y6_0 y6_1, mkP y2_0 y2_1 y2_2 y2_3 y4_0 y4_1 y4_2 y6_0 y6_1] [mkL y2_0 y2_1 y2_2 y2_3 y4_0 y4_1 y4_2 y6_0 y6_1, mkC y2_0 y2_1 y2_2 y2_3 y4_0 y4_1 y4_2 y6_0 y6_1, mkP y2_0 y2_1 y2_2 y2_3 y4_0 y4_1 y4_2 y6_0 y6_1] hF rfl (by kernel_rfl) (by kernel_rfl) (by kernel_rfl) rfl (by kernel_rfl) (by kernel_rfl) (by kernel_rfl) rfl rfl).to (nT rfl)) fun a w hF hM => ?_)
                  refine sB 4 [(181, .bool false), (182, .bool false), (183, .int .i64 (mkE y2_0 y2_1 y2_2 y2_3 y4_0 y4_1 y4_2 y6_0 y6_1)), (184, .int .i64 (mkE y2_0 y2_1 y2_2 y2_3 y4_0 y4_1 y4_2 y6_0 y6_1))] hF (by kernel_rfl) fun a hF => ?_
                  refine wl (eP 185 (v0 := .bool (!decide (mkE y2_0 y2_1 y2_2 y2_3 y4_0 y4_1 y4_2 y6_0 y6_1 = mkE y2_0 y2_1 y2_2 y2_3 y4_0 y4_1 y4_2 y6_0 y6_1))) (v := .bool false) hF (by kernel_rfl) (fun _ => by kernel_rfl) (nT (by omega)) fun a hF => ?_)
                  refine sB 1 [(186, .bool false)] hF (by kernel_rfl) fun a hF => ?_
                  refine wpList_nil ?_
                  refine hK33 _ _ ?_
                  refine cF hF (by kernel_rfl) (by kernel_rfl) ?_
                  refine wp_skip ?_
                  refine hK29 _ _ ?_
                  refine wp_region_lit ?_
                  refine wl (eP 187 (v0 := .int .i64 (IntKind.i64.wrap ((k143 : Int) + 1))) (v := .int .i64 ((k143 : Int) + 1)) hF (by kernel_rfl) (fun _ => by kernel_rfl) (wi (by omega)) fun a hF => ?_)
                  refine sB 1 [(143, .int .i64 ((k143 : Int) + 1))] hF (by kernel_rfl) fun a hF => ?_
                  refine wpList_nil ?_
                  refine hK26 _ _ ⟨(k143 + 1), ⟨(((((((((((((((((((((((((((((((((((((((((((((((((((((((((((((((((((((((((((((((((((((((Fr.nil hF).c hF (i := 142) rfl rfl).c hF (i := 141) rfl rfl).c hF (i := 140) rfl rfl).c hF (i := 139) rfl rfl).c hF (i := 138) rfl rfl).c hF (i := 137) rfl rfl).c hF (i := 136) rfl rfl).c hF (i := 135) rfl rfl).c hF (i := 134) rfl rfl).c hF (i := 133) rfl rfl).c hF (i := 132) rfl rfl).c hF (i := 131) rfl rfl).c hF (i := 130) rfl rfl).c hF (i := 129) rfl rfl).c hF (i := 128) rfl rfl).c hF (i := 127) rfl rfl).c hF (i := 126) rfl rfl).c hF (i := 125) rfl rfl).c hF (i := 124) rfl rfl).c hF (i := 123) rfl rfl).c hF (i := 122) rfl rfl).c hF (i := 121) rfl rfl).c hF (i := 120) rfl rfl).c hF (i := 119) rfl rfl).c hF (i := 118) rfl rfl).c hF (i := 117) rfl rfl).c hF (i := 116) rfl rfl).c hF (i := 115) rfl rfl).c hF (i := 114) rfl rfl).c hF (i := 113) rfl rfl).c hF (i := 112) rfl rfl).c hF (i := 111) rfl rfl).c hF (i := 110) rfl rfl).c hF (i := 109) rfl rfl).c hF (i := 108) rfl rfl).c hF (i := 107) rfl rfl).c hF (i := 106) rfl rfl).c hF (i := 105) rfl rfl).c hF (i := 104) rfl rfl).c hF (i := 103) rfl rfl).c hF (i := 102) rfl rfl).c hF (i := 101) rfl rfl).c hF (i := 100) rfl rfl).c hF (i := 99) rfl rfl).c hF (i := 98) rfl rfl).c hF (i := 97) rfl rfl).c hF (i := 96) rfl rfl).c hF (i := 95) rfl rfl).c hF (i := 94) rfl rfl).c hF (i := 93) rfl rfl).c hF (i := 92) rfl rfl).c hF (i := 91) rfl rfl).c hF (i := 90) rfl rfl).c hF (i := 89) rfl rfl).c hF (i := 88) rfl rfl).c hF (i := 87) rfl rfl).c hF (i := 86) rfl rfl).c hF (i := 85) rfl rfl).c hF (i := 84) rfl rfl).c hF (i := 83) rfl rfl).c hF (i := 82) rfl rfl).c hF (i := 81) rfl rfl).c hF (i := 80) rfl rfl).c hF (i := 79) rfl rfl).c hF (i := 78) rfl rfl).c hF (i := 77) rfl rfl).c hF (i := 76) rfl rfl).c hF (i := 75) rfl rfl).c hF (i := 74) rfl rfl).c hF (i := 73) rfl rfl).c hF (i := 72) rfl rfl).c hF (i := 71) rfl rfl).c hF (i := 70) rfl rfl).c hF (i := 24) rfl rfl).c hF (i := 22) rfl rfl).c hF (i := 21) rfl rfl).c hF (i := 20) rfl rfl).c hF (i := 19) rfl rfl).c hF (i := 18) rfl rfl).c hF (i := 16) rfl rfl).c hF (i := 15) rfl rfl).c hF (i := 14) rfl rfl).c hF (i := 13) rfl rfl).c hF (i := 9) rfl rfl).c hF (i := 8) rfl rfl).c hF (i := 143) rfl (vi (by omega))), (hM.sub (((((((((((((((Sub.nil.c (k := 15) rfl rfl).c (k := 14) rfl rfl).c (k := 13) rfl rfl).c (k := 12) rfl rfl).c (k := 11) rfl rfl).c (k := 10) rfl rfl).c (k := 9) rfl rfl).c (k := 8) rfl rfl).c (k := 7) rfl rfl).c (k := 6) rfl rfl).c (k := 5) rfl rfl).c (k := 4) rfl rfl).c (k := 3) rfl rfl).c (k := 2) rfl rfl).c (k := 1) rfl rfl)), (show ((k143 + 1) : Int) ≤ 4 from by omega)⟩, (show 4 - (k143 + 1) < 4 - k143 from by omega)⟩
                · skip
                  have hF := hF.c hF (i := 144) (v := .bool false) rfl (bF hz6)
                  refine cF hF (by kernel_rfl) (by kernel_rfl) ?_
                  refine wp_exit ?_
                  refine hK21 _ _ ?_
                  refine wp_region_lit ?_
                  refine wl (eP 188 (v0 := .int .i64 (IntKind.i64.wrap ((k105 : Int) + 1))) (v := .int .i64 ((k105 : Int) + 1)) hF (by kernel_rfl) (fun _ => by kernel_rfl) (wi (by omega)) fun a hF => ?_)
                  refine sB 1 [(105, .int .i64 ((k105 : Int) + 1))] hF (by kernel_rfl) fun a hF => ?_
                  refine wpList_nil ?_
                  refine hK18 _ _ ⟨(k105 + 1), ⟨((((((((((((((((((((((((((((((((((((((((((((((((Fr.nil hF).c hF (i := 104) rfl rfl).c hF (i := 103) rfl rfl).c hF (i := 102) rfl rfl).c hF (i := 101) rfl rfl).c hF (i := 100) rfl rfl).c hF (i := 99) rfl rfl).c hF (i := 98) rfl rfl).c hF (i := 97) rfl rfl).c hF (i := 96) rfl rfl).c hF (i := 95) rfl rfl).c hF (i := 94) rfl rfl).c hF (i := 93) rfl rfl).c hF (i := 92) rfl rfl).c hF (i := 91) rfl rfl).c hF (i := 90) rfl rfl).c hF (i := 89) rfl rfl).c hF (i := 88) rfl rfl).c hF (i := 87) rfl rfl).c hF (i := 86) rfl rfl).c hF (i := 85) rfl rfl).c hF (i := 84) rfl rfl).c hF (i := 83) rfl rfl).c hF (i := 82) rfl rfl).c hF (i := 81) rfl rfl).c hF (i := 80) rfl rfl).c hF (i := 79) rfl rfl).c hF (i := 78) rfl rfl).c hF (i := 77) rfl rfl).c hF (i := 76) rfl rfl).c hF (i := 75) rfl rfl).c hF (i := 74) rfl rfl).c hF (i := 73) rfl rfl).c hF (i := 72) rfl rfl).c hF (i := 71) rfl rfl).c hF (i := 70) rfl rfl).c hF (i := 22) rfl rfl).c hF (i := 21) rfl rfl).c hF (i := 20) rfl rfl).c hF (i := 19) rfl rfl).c hF (i := 18) rfl rfl).c hF (i := 16) rfl rfl).c hF (i := 15) rfl rfl).c hF (i := 14) rfl rfl).c hF (i := 13) rfl rfl).c hF (i := 9) rfl rfl).c hF (i := 8) rfl rfl).c hF (i := 105) rfl (vi (by omega))), (hM.sub ((((((((((((((Sub.nil.c (k := 14) rfl rfl).c (k := 13) rfl rfl).c (k := 12) rfl rfl).c (k := 11) rfl rfl).c (k := 10) rfl rfl).c (k := 9) rfl rfl).c (k := 8) rfl rfl).c (k := 7) rfl rfl).c (k := 6) rfl rfl).c (k := 5) rfl rfl).c (k := 4) rfl rfl).c (k := 3) rfl rfl).c (k := 2) rfl rfl).c (k := 1) rfl rfl)), (show ((k105 + 1) : Int) ≤ 6 from by omega)⟩, (show 6 - (k105 + 1) < 6 - k105 from by omega)⟩
            · skip
              have hF := hF.c hF (i := 106) (v := .bool false) rfl (bF hz4)
              refine cF hF (by kernel_rfl) (by kernel_rfl) ?_
              refine wp_exit ?_
              refine hK11 _ _ ?_
              refine wp_region_lit ?_
              refine wl (eP 189 (v0 := .int .i64 (IntKind.i64.wrap ((k71 : Int) + 1))) (v := .int .i64 ((k71 : Int) + 1)) hF (by kernel_rfl) (fun _ => by kernel_rfl) (wi (by omega)) fun a hF => ?_)
              refine sB 1 [(71, .int .i64 ((k71 : Int) + 1))] hF (by kernel_rfl) fun a hF => ?_
              refine wpList_nil ?_
              refine hK8 _ _ ⟨(k71 + 1), ⟨(((((((((Fr.nil hF).c hF (i := 70) rfl rfl).c hF (i := 16) rfl rfl).c hF (i := 15) rfl rfl).c hF (i := 14) rfl rfl).c hF (i := 13) rfl rfl).c hF (i := 9) rfl rfl).c hF (i := 8) rfl rfl).c hF (i := 71) rfl (vi (by omega))), (hM.sub (((((((((((Sub.nil.c (k := 11) rfl rfl).c (k := 10) rfl rfl).c (k := 9) rfl rfl).c (k := 8) rfl rfl).c (k := 7) rfl rfl).c (k := 6) rfl rfl).c (k := 5) rfl rfl).c (k := 4) rfl rfl).c (k := 3) rfl rfl).c (k := 2) rfl rfl).c (k := 1) rfl rfl)), (show ((k71 + 1) : Int) ≤ 4 from by omega)⟩, (show 4 - (k71 + 1) < 4 - k71 from by omega)⟩
        · skip
          have hF := hF.c hF (i := 72) (v := .bool false) rfl (bF hz2)
          refine cF hF (by kernel_rfl) (by kernel_rfl) ?_
          refine wp_exit ?_
          refine hK6 _ _ ?_
          refine wp_seq_k fun K34 hK34 => ?_
          refine wp_region_lit ?_
          refine wl (eM 190 (v := .bool true) hF hM (by kernel_rfl) (yld_call (f := 17) (args := #[]) hF (by kernel_rfl) (fun _ => by kernel_rfl) (fun w hM => works_w w)) fun a w hF hM => ?_)
          refine sB 1 [(10, .bool true)] hF (by kernel_rfl) fun a hF => ?_
          refine wpList_nil ?_
          refine hK34 _ _ ?_
          refine wp_ret ?_
          refine hR0 _ _ ?_
          refine ret_of hF hM (.tmp rfl (.nil)) ?_
          exact ⟨rfl, hM.bel⟩

end Go.Proofs.Ytncllmponigkgaa
