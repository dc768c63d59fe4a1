/-
  The walk of ShapeTimes.
-/
import Derived.Test.YtaekcgapbkmepaaShapeD
import Derived.Test.YtaekcgapbkmepaaCfTrW
namespace Go.Proofs.Ytaekcgapbkmepaa
open Go.RowKit
set_option linter.unusedVariables false
set_option linter.unusedSimpArgs false

set_option maxRecDepth 100000 in
set_option maxHeartbeats 8000000 in
theorem shapeTimes_walk (b0 b1 bu ra sv0 sv1 x0 x1 : Int) (g s : Value) (w0 : World) (h : 0 ≤ bu ∧ bu < 4294967296 ∧ 0 ≤ ra ∧ ra < 4294967296) (hh : -9223372036854775808 ≤ sv0 ∧ sv0 ≤ 9223372036854775807 ∧ -9223372036854775808 ≤ sv1 ∧ sv1 ≤ 9223372036854775807 ∧ -9223372036854775808 ≤ x0 ∧ x0 ≤ 9223372036854775807 ∧ -9223372036854775808 ≤ x1 ∧ x1 ≤ 9223372036854775807) :
    Calls Try.prog 3 #[.agg #[.int .i64 b0, .int .i64 b1], .agg #[.int .u32 bu, .int .u32 ra, g, s], .agg #[.int .i64 sv0, .int .i64 sv1], .agg #[.int .i64 x0, .int .i64 x1]] w0 (Ret w0 (.bool true)) := by
  refine enterK 172 Try.func3 rfl rfl rfl ?_
  intro a hF Q0 hR0 hN0
  have hM := Mem.start w0
  refine wp_seq_k fun K1 hK1 => ?_
  refine wp_region_lit ?_
  refine wl (eN 4 1 (t := 23) (fun b => .pointer (some ⟨b, 0, none⟩)) #[.int .i64 b0, .int .i64 b1] hF hM (by kernel_rfl) (fun _ => by kernel_rfl) fun bb1 a w hF hM => ?_)
  refine wl (eN 5 2 (t := 27) (fun b => .pointer (some ⟨b, 0, none⟩)) #[.int .u32 bu, .int .u32 ra, g, s] hF hM (by kernel_rfl) (fun _ => by kernel_rfl) fun bb2 a w hF hM => ?_)
  refine wl (eN 6 3 (t := 29) (fun b => .pointer (some ⟨b, 0, none⟩)) #[.int .i64 sv0, .int .i64 sv1] hF hM (by kernel_rfl) (fun _ => by kernel_rfl) fun bb3 a w hF hM => ?_)
  refine wl (eN 7 4 (t := 31) (fun b => .pointer (some ⟨b, 0, none⟩)) #[.int .i64 x0, .int .i64 x1] hF hM (by kernel_rfl) (fun _ => by kernel_rfl) fun bb4 a w hF hM => ?_)
  refine sB 1 [(8, .bool false)] hF (by kernel_rfl) fun a hF => ?_
  refine wpList_nil ?_
  refine hK1 _ _ ?_
  refine wp_seq_k fun K2 hK2 => ?_
  refine wp_region_lit ?_
  refine wl (eL 27 2 0 (v := .agg #[.int .u32 bu, .int .u32 ra, g, s]) hF hM (by kernel_rfl) rfl rfl (by kernel_rfl) (by kernel_rfl) fun a w hF hM => ?_)
  refine wl (eM 28 (v := .agg #[.int .i64 (1 + bu % 1048576), .int .i64 (1 + ra % 2097152)]) hF hM (by kernel_rfl) (yld_call (f := 9) (args := #[.agg #[.int .u32 bu, .int .u32 ra, g, s]]) hF (by kernel_rfl) (fun _ => by kernel_rfl) (fun w hM => draftBucket_w bu ra (g) (s) w (by omega))) fun a w hF hM => ?_)
  refine wl (eN 9 5 (t := 23) (fun b => .pointer (some ⟨b, 0, none⟩)) #[.int .i64 0, .int .i64 0] hF hM (by kernel_rfl) (fun _ => by kernel_rfl) fun bb5 a w hF hM => ?_)
  refine wl (sStore (i := 5) (off := 0) (cs' := #[.int .i64 (1 + bu % 1048576), .int .i64 (1 + ra % 2097152)]) hF hM (by kernel_rfl) rfl rfl (by kernel_rfl) (by kernel_rfl) rfl (by kernel_rfl) fun w hM => ?_)
  refine wpList_nil ?_
  refine hK2 _ _ ?_
  refine wp_seq_k fun K3 hK3 => ?_
  have := emod_bd (p := sv1 % 18446744073709551616) (q := (1 + bu % 1048576) * 1048576 + 1) (by omega) (by omega)
  refine rF (by kernel_rfl) (by kernel_rfl) (fun S a w => ∃ bb6 : Nat, Fr 172 [(4, some (.pointer (some ⟨bb1, 0, none⟩))), (6, some (.pointer (some ⟨bb3, 0, none⟩))), (7, some (.pointer (some ⟨bb4, 0, none⟩))), (8, some (.bool false)), (9, some (.pointer (some ⟨bb5, 0, none⟩))), (10, (cond (S.getD 16 false) (some (.pointer (some ⟨bb6, 0, none⟩))) none)), (29, (cond (S.getD 0 false) (some (.pointer (some ⟨bb3, 0, none⟩))) none)), (30, (cond (S.getD 1 false) (some (.int .i64 sv0)) none)), (31, (cond (S.getD 2 false) (some (.int .u64 (sv0 % 18446744073709551616))) none)), (32, (cond (S.getD 3 false) (some (.int .u64 (sv0 % 18446744073709551616 % 99999))) none)), (33, (cond (S.getD 4 false) (some (.int .i64 (sv0 % 18446744073709551616 % 99999))) none)), (34, (cond (S.getD 5 false) (some (.pointer (some ⟨bb3, 1, none⟩))) none)), (35, (cond (S.getD 6 false) (some (.int .i64 sv1)) none)), (36, (cond (S.getD 7 false) (some (.int .u64 (sv1 % 18446744073709551616))) none)), (37, (cond (S.getD 8 false) (some (.pointer (some ⟨bb5, 0, none⟩))) none)), (38, (cond (S.getD 9 false) (some (.int .i64 (1 + bu % 1048576))) none)), (39, (cond (S.getD 10 false) (some (.int .i64 ((1 + bu % 1048576) * 1048576))) none)), (40, (cond (S.getD 11 false) (some (.int .i64 ((1 + bu % 1048576) * 1048576 + 1))) none)), (41, (cond (S.getD 12 false) (some (.int .u64 ((1 + bu % 1048576) * 1048576 + 1))) none)), (42, (cond (S.getD 13 false) (some (.int .u64 (sv1 % 18446744073709551616 % ((1 + bu % 1048576) * 1048576 + 1)))) none)), (43, (cond (S.getD 14 false) (some (.int .i64 (sv1 % 18446744073709551616 % ((1 + bu % 1048576) * 1048576 + 1)))) none)), (44, (cond (S.getD 15 false) (some (.agg #[.int .i64 (sv0 % 18446744073709551616 % 99999), .int .i64 (sv1 % 18446744073709551616 % ((1 + bu % 1048576) * 1048576 + 1))])) none))] a ∧ Mem w0.heap.size w0 [(1, some (.row bb1 23 #[.int .i64 b0, .int .i64 b1])), (3, some (.row bb3 29 #[.int .i64 sv0, .int .i64 sv1])), (4, some (.row bb4 31 #[.int .i64 x0, .int .i64 x1])), (5, some (.row bb5 23 #[.int .i64 (1 + bu % 1048576), .int .i64 (1 + ra % 2097152)])), (6, (cond (S.getD 17 false) (some (.row bb6 29 #[.int .i64 (sv0 % 18446744073709551616 % 99999), .int .i64 (sv1 % 18446744073709551616 % ((1 + bu % 1048576) * 1048576 + 1))])) (cond (S.getD 16 false) (some (.row bb6 29 #[.int .i64 0, .int .i64 0])) none)))] w) ?_ ?_ ?_
  · exact ⟨0, (((((((((((((((((((((((Fr.nil hF).co hF (i := 44) (by kernel_rfl)).co hF (i := 43) (by kernel_rfl)).co hF (i := 42) (by kernel_rfl)).co hF (i := 41) (by kernel_rfl)).co hF (i := 40) (by kernel_rfl)).co hF (i := 39) (by kernel_rfl)).co hF (i := 38) (by kernel_rfl)).co hF (i := 37) (by kernel_rfl)).co hF (i := 36) (by kernel_rfl)).co hF (i := 35) (by kernel_rfl)).co hF (i := 34) (by kernel_rfl)).co hF (i := 33) (by kernel_rfl)).co hF (i := 32) (by kernel_rfl)).co hF (i := 31) (by kernel_rfl)).co hF (i := 30) (by kernel_rfl)).co hF (i := 29) (by kernel_rfl)).co hF (i := 10) (by kernel_rfl)).co hF (i := 9) (by kernel_rfl)).co hF (i := 8) (by kernel_rfl)).co hF (i := 7) (by kernel_rfl)).co hF (i := 6) (by kernel_rfl)).co hF (i := 4) (by kernel_rfl)), hM.drew.sub (((((Sub.nil.co (k := 6) (by kernel_rfl)).co (k := 5) (by kernel_rfl)).co (k := 4) (by kernel_rfl)).co (k := 3) (by kernel_rfl)).co (k := 1) (by kernel_rfl))⟩
  · refine stC ?_ (stC ?_ (stC ?_ (stC ?_ (stC ?_ (stC ?_ (stC ?_ (stC ?_ (stC ?_ (stC ?_ (stC ?_ (stC ?_ (stC ?_ (stC ?_ (stC ?_ (stC ?_ (stC ?_ (stC ?_ (trivial))))))))))))))))))
    · intro s0 s1 s2 s3 s4 s5 s6 s7 s8 s9 s10 s11 s12 s13 s14 s15 s16 s17 hc hi hp a w hS
      obtain rfl : s0 = false := hi
      obtain ⟨bb6, hF, hM⟩ := hS
      refine eP 29 (v0 := .pointer (some ⟨bb3, 0, none⟩)) (v := .pointer (some ⟨bb3, 0, none⟩)) hF (by kernel_rfl) (fun _ => by kernel_rfl) rfl fun a hF => ?_
      exact ⟨bb6, ((hF.repl 6 (by kernel_rfl)).cast (by kernel_rfl)), (hM.cast (by kernel_rfl))⟩
    · intro s0 s1 s2 s3 s4 s5 s6 s7 s8 s9 s10 s11 s12 s13 s14 s15 s16 s17 hc hi hp a w hS
      obtain rfl : s1 = false := hi
      obtain rfl : s0 = true := hp 0 (by kernel_rfl)
      obtain ⟨bb6, hF, hM⟩ := hS
      refine eL 30 3 0 (v := .int .i64 sv0) hF hM (by kernel_rfl) rfl rfl (by kernel_rfl) (by kernel_rfl) fun a w hF hM => ?_
      exact ⟨bb6, ((hF.repl 7 (by kernel_rfl)).cast (by kernel_rfl)), (hM.cast (by kernel_rfl))⟩
    · intro s0 s1 s2 s3 s4 s5 s6 s7 s8 s9 s10 s11 s12 s13 s14 s15 s16 s17 hc hi hp a w hS
      obtain rfl : s2 = false := hi
      obtain rfl : s1 = true := hp 1 (by kernel_rfl)
      obtain ⟨bb6, hF, hM⟩ := hS
      refine eP 31 (v0 := .int .u64 (IntKind.u64.wrap sv0)) (v := .int .u64 (sv0 % 18446744073709551616)) hF (by kernel_rfl) (fun _ => by kernel_rfl) (vi (u64_wrap _)) fun a hF => ?_
      exact ⟨bb6, ((hF.repl 8 (by kernel_rfl)).cast (by kernel_rfl)), (hM.cast (by kernel_rfl))⟩
    · intro s0 s1 s2 s3 s4 s5 s6 s7 s8 s9 s10 s11 s12 s13 s14 s15 s16 s17 hc hi hp a w hS
      obtain rfl : s3 = false := hi
      obtain rfl : s2 = true := hp 2 (by kernel_rfl)
      obtain ⟨bb6, hF, hM⟩ := hS
      refine eM 32 (v := .int .u64 (sv0 % 18446744073709551616 % 99999)) hF hM (by kernel_rfl) (yld_rem (sv0 % 18446744073709551616) 99999 hF rfl (by kernel_rfl) (by kernel_rfl) (by kernel_rfl) (by decide) (Int.tmod_eq_emod_of_nonneg (by omega))) fun a w hF hM => ?_
      exact ⟨bb6, ((hF.repl 9 (by kernel_rfl)).cast (by kernel_rfl)), (hM.cast (by kernel_rfl))⟩
    · intro s0 s1 s2 s3 s4 s5 s6 s7 s8 s9 s10 s11 s12 s13 s14 s15 s16 s17 hc hi hp a w hS
      obtain rfl : s4 = false := hi
      obtain rfl : s3 = true := hp 3 (by kernel_rfl)
      obtain ⟨bb6, hF, hM⟩ := hS
      refine eP 33 (v0 := .int .i64 (IntKind.i64.wrap (sv0 % 18446744073709551616 % 99999))) (v := .int .i64 (sv0 % 18446744073709551616 % 99999)) hF (by kernel_rfl) (fun _ => by kernel_rfl) (vi (IntWalk.i64_in _ (by omega))) fun a hF => ?_
      exact ⟨bb6, ((hF.repl 10 (by kernel_rfl)).cast (by kernel_rfl)), (hM.cast (by kernel_rfl))⟩
    · intro s0 s1 s2 s3 s4 s5 s6 s7 s8 s9 s10 s11 s12 s13 s14 s15 s16 s17 hc hi hp a w hS
      obtain rfl : s5 = false := hi
      obtain ⟨bb6, hF, hM⟩ := hS
      refine eP 34 (v0 := .pointer (some ⟨bb3, 1, none⟩)) (v := .pointer (some ⟨bb3, 1, none⟩)) hF (by kernel_rfl) (fun _ => by kernel_rfl) rfl fun a hF => ?_
      exact ⟨bb6, ((hF.repl 11 (by kernel_rfl)).cast (by kernel_rfl)), (hM.cast (by kernel_rfl))⟩
    · intro s0 s1 s2 s3 s4 s5 s6 s7 s8 s9 s10 s11 s12 s13 s14 s15 s16 s17 hc hi hp a w hS
      obtain rfl : s6 = false := hi
      obtain rfl : s5 = true := hp 5 (by kernel_rfl)
      obtain ⟨bb6, hF, hM⟩ := hS
      refine eL 35 3 1 (v := .int .i64 sv1) hF hM (by kernel_rfl) rfl rfl (by kernel_rfl) (by kernel_rfl) fun a w hF hM => ?_
      exact ⟨bb6, ((hF.repl 12 (by kernel_rfl)).cast (by kernel_rfl)), (hM.cast (by kernel_rfl))⟩
    · intro s0 s1 s2 s3 s4 s5 s6 s7 s8 s9 s10 s11 s12 s13 s14 s15 s16 s17 hc hi hp a w hS
      obtain rfl : s7 = false := hi
      obtain rfl : s6 = true := hp 6 (by kernel_rfl)
      obtain ⟨bb6, hF, hM⟩ := hS
      refine eP 36 (v0 := .int .u64 (IntKind.u64.wrap sv1)) (v := .int .u64 (sv1 % 18446744073709551616)) hF (by kernel_rfl) (fun _ => by kernel_rfl) (vi (u64_wrap _)) fun a hF => ?_
      exact ⟨bb6, ((hF.repl 13 (by kernel_rfl)).cast (by kernel_rfl)), (hM.cast (by kernel_rfl))⟩
    · intro s0 s1 s2 s3 s4 s5 s6 s7 s8 s9 s10 s11 s12 s13 s14 s15 s16 s17 hc hi hp a w hS
      obtain rfl : s8 = false := hi
      obtain ⟨bb6, hF, hM⟩ := hS
      refine eP 37 (v0 := .pointer (some ⟨bb5, 0, none⟩)) (v := .pointer (some ⟨bb5, 0, none⟩)) hF (by kernel_rfl) (fun _ => by kernel_rfl) rfl fun a hF => ?_
      exact ⟨bb6, ((hF.repl 14 (by kernel_rfl)).cast (by kernel_rfl)), (hM.cast (by kernel_rfl))⟩
    · intro s0 s1 s2 s3 s4 s5 s6 s7 s8 s9 s10 s11 s12 s13 s14 s15 s16 s17 hc hi hp a w hS
      obtain rfl : s9 = false := hi
      obtain rfl : s8 = true := hp 8 (by kernel_rfl)
      obtain ⟨bb6, hF, hM⟩ := hS
      refine eL 38 5 0 (v := .int .i64 (1 + bu % 1048576)) hF hM (by kernel_rfl) rfl rfl (by kernel_rfl) (by kernel_rfl) fun a w hF hM => ?_
      exact ⟨bb6, ((hF.repl 15 (by kernel_rfl)).cast (by kernel_rfl)), (hM.cast (by kernel_rfl))⟩
    · intro s0 s1 s2 s3 s4 s5 s6 s7 s8 s9 s10 s11 s12 s13 s14 s15 s16 s17 hc hi hp a w hS
      obtain rfl : s10 = false := hi
      obtain rfl : s9 = true := hp 9 (by kernel_rfl)
      obtain ⟨bb6, hF, hM⟩ := hS
      refine eP 39 (v0 := .int .i64 (IntKind.i64.wrap ((1 + bu % 1048576) * 1048576))) (v := .int .i64 ((1 + bu % 1048576) * 1048576)) hF (by kernel_rfl) (fun _ => by kernel_rfl) (wi (by omega)) fun a hF => ?_
      exact ⟨bb6, ((hF.repl 16 (by kernel_rfl)).cast (by kernel_rfl)), (hM.cast (by kernel_rfl))⟩
    · intro s0 s1 s2 s3 s4 s5 s6 s7 s8 s9 s10 s11 s12 s13 s14 s15 s16 s17 hc hi hp a w hS
      obtain rfl : s11 = false := hi
      obtain rfl : s10 = true := hp 10 (by kernel_rfl)
      obtain ⟨bb6, hF, hM⟩ := hS
      refine eP 40 (v0 := .int .i64 (IntKind.i64.wrap ((1 + bu % 1048576) * 1048576 + 1))) (v := .int .i64 ((1 + bu % 1048576) * 1048576 + 1)) hF (by kernel_rfl) (fun _ => by kernel_rfl) (wi (by omega)) fun a hF => ?_
      exact ⟨bb6, ((hF.repl 17 (by kernel_rfl)).cast (by kernel_rfl)), (hM.cast (by kernel_rfl))⟩
    · intro s0 s1 s2 s3 s4 s5 s6 s7 s8 s9 s10 s11 s12 s13 s14 s15 s16 s17 hc hi hp a w hS
      obtain rfl : s12 = false := hi
      obtain rfl : s11 = true := hp 11 (by kernel_rfl)
      obtain ⟨bb6, hF, hM⟩ := hS
      refine eP 41 (v0 := .int .u64 (IntKind.u64.wrap ((1 + bu % 1048576) * 1048576 + 1))) (v := .int .u64 ((1 + bu % 1048576) * 1048576 + 1)) hF (by kernel_rfl) (fun _ => by kernel_rfl) (vi (IntWalk.u64_in _ (by omega))) fun a hF => ?_
      exact ⟨bb6, ((hF.repl 18 (by kernel_rfl)).cast (by kernel_rfl)), (hM.cast (by kernel_rfl))⟩
    · intro s0 s1 s2 s3 s4 s5 s6 s7 s8 s9 s10 s11 s12 s13 s14 s15 s16 s17 hc hi hp a w hS
      obtain rfl : s13 = false := hi
      obtain rfl : s12 = true := hp 12 (by kernel_rfl)
      obtain rfl : s7 = true := hp 7 (by kernel_rfl)
      obtain ⟨bb6, hF, hM⟩ := hS
      refine eM 42 (v := .int .u64 (sv1 % 18446744073709551616 % ((1 + bu % 1048576) * 1048576 + 1))) hF hM (by kernel_rfl) (yld_rem (sv1 % 18446744073709551616) ((1 + bu % 1048576) * 1048576 + 1) hF rfl (by kernel_rfl) (by kernel_rfl) (by kernel_rfl) (by omega) (Int.tmod_eq_emod_of_nonneg (by omega))) fun a w hF hM => ?_
      exact ⟨bb6, ((hF.repl 19 (by kernel_rfl)).cast (by kernel_rfl)), (hM.cast (by kernel_rfl))⟩
    · intro s0 s1 s2 s3 s4 s5 s6 s7 s8 s9 s10 s11 s12 s13 s14 s15 s16 s17 hc hi hp a w hS
      obtain rfl : s14 = false := hi
      obtain rfl : s13 = true := hp 13 (by kernel_rfl)
      obtain ⟨bb6, hF, hM⟩ := hS
      refine eP 43 (v0 := .int .i64 (IntKind.i64.wrap (sv1 % 18446744073709551616 % ((1 + bu % 1048576) * 1048576 + 1)))) (v := .int .i64 (sv1 % 18446744073709551616 % ((1 + bu % 1048576) * 1048576 + 1))) hF (by kernel_rfl) (fun _ => by kernel_rfl) (vi (IntWalk.i64_in _ (by omega))) fun a hF => ?_
      exact ⟨bb6, ((hF.repl 20 (by kernel_rfl)).cast (by kernel_rfl)), (hM.cast (by kernel_rfl))⟩
    · intro s0 s1 s2 s3 s4 s5 s6 s7 s8 s9 s10 s11 s12 s13 s14 s15 s16 s17 hc hi hp a w hS
      obtain rfl : s15 = false := hi
      obtain rfl : s14 = true := hp 14 (by kernel_rfl)
      obtain rfl : s4 = true := hp 4 (by kernel_rfl)
      obtain ⟨bb6, hF, hM⟩ := hS
      refine eP 44 (v0 := .agg #[.int .i64 (sv0 % 18446744073709551616 % 99999), .int .i64 (sv1 % 18446744073709551616 % ((1 + bu % 1048576) * 1048576 + 1))]) (v := .agg #[.int .i64 (sv0 % 18446744073709551616 % 99999), .int .i64 (sv1 % 18446744073709551616 % ((1 + bu % 1048576) * 1048576 + 1))]) hF (by kernel_rfl) (fun _ => by kernel_rfl) rfl fun a hF => ?_
      exact ⟨bb6, ((hF.repl 21 (by kernel_rfl)).cast (by kernel_rfl)), (hM.cast (by kernel_rfl))⟩
    · intro s0 s1 s2 s3 s4 s5 s6 s7 s8 s9 s10 s11 s12 s13 s14 s15 s16 s17 hc hi hp a w hS
      obtain rfl : s16 = false := hi
      obtain rfl : s17 = false := hc.f 17 16 (by kernel_rfl) rfl
      obtain ⟨bb6, hF, hM⟩ := hS
      refine eN 10 6 (t := 29) (fun b => .pointer (some ⟨b, 0, none⟩)) #[.int .i64 0, .int .i64 0] hF hM (by kernel_rfl) (fun _ => by kernel_rfl) fun bb6 a w hF hM => ?_
      exact ⟨bb6, ((hF.repl 5 (by kernel_rfl)).cast (by kernel_rfl)), ((hM.repl 4 (by kernel_rfl)).cast (by kernel_rfl))⟩
    · intro s0 s1 s2 s3 s4 s5 s6 s7 s8 s9 s10 s11 s12 s13 s14 s15 s16 s17 hc hi hp a w hS
      obtain rfl : s17 = false := hi
      obtain rfl : s16 = true := hp 16 (by kernel_rfl)
      obtain rfl : s15 = true := hp 15 (by kernel_rfl)
      obtain ⟨bb6, hF, hM⟩ := hS
      refine sStore (i := 6) (off := 0) (cs' := #[.int .i64 (sv0 % 18446744073709551616 % 99999), .int .i64 (sv1 % 18446744073709551616 % ((1 + bu % 1048576) * 1048576 + 1))]) hF hM (by kernel_rfl) rfl rfl (by kernel_rfl) (by kernel_rfl) rfl (by kernel_rfl) fun w hM => ?_
      exact ⟨bb6, (hF.cast (by kernel_rfl)), ((hM.repl 4 (by kernel_rfl)).cast (by kernel_rfl))⟩
  · intro a w hS
    obtain ⟨bb6, hF, hM⟩ := hS
    replace hF : Fr 172 [(4, some (.pointer (some ⟨bb1, 0, none⟩))), (6, some (.pointer (some ⟨bb3, 0, none⟩))), (7, some (.pointer (some ⟨bb4, 0, none⟩))), (8, some (.bool false)), (9, some (.pointer (some ⟨bb5, 0, none⟩))), (10, some (.pointer (some ⟨bb6, 0, none⟩))), (29, some (.pointer (some ⟨bb3, 0, none⟩))), (30, some (.int .i64 sv0)), (31, some (.int .u64 (sv0 % 18446744073709551616))), (32, some (.int .u64 (sv0 % 18446744073709551616 % 99999))), (33, some (.int .i64 (sv0 % 18446744073709551616 % 99999))), (34, some (.pointer (some ⟨bb3, 1, none⟩))), (35, some (.int .i64 sv1)), (36, some (.int .u64 (sv1 % 18446744073709551616))), (37, some (.pointer (some ⟨bb5, 0, none⟩))), (38, some (.int .i64 (1 + bu % 1048576))), (39, some (.int .i64 ((1 + bu % 1048576) * 1048576))), (40, some (.int .i64 ((1 + bu % 1048576) * 1048576 + 1))), (41, some (.int .u64 ((1 + bu % 1048576) * 1048576 + 1))), (42, some (.int .u64 (sv1 % 18446744073709551616 % ((1 + bu % 1048576) * 1048576 + 1)))), (43, some (.int .i64 (sv1 % 18446744073709551616 % ((1 + bu % 1048576) * 1048576 + 1)))), (44, some (.agg #[.int .i64 (sv0 % 18446744073709551616 % 99999), .int .i64 (sv1 % 18446744073709551616 % ((1 + bu % 1048576) * 1048576 + 1))]))] a := hF.cast (by kernel_rfl)
    replace hM : Mem w0.heap.size w0 [(1, some (.row bb1 23 #[.int .i64 b0, .int .i64 b1])), (3, some (.row bb3 29 #[.int .i64 sv0, .int .i64 sv1])), (4, some (.row bb4 31 #[.int .i64 x0, .int .i64 x1])), (5, some (.row bb5 23 #[.int .i64 (1 + bu % 1048576), .int .i64 (1 + ra % 2097152)])), (6, some (.row bb6 29 #[.int .i64 (sv0 % 18446744073709551616 % 99999), .int .i64 (sv1 % 18446744073709551616 % ((1 + bu % 1048576) * 1048576 + 1))]))] w := hM.cast (by kernel_rfl)
    refine hK3 _ _ ?_
    refine wp_seq_k fun K4 hK4 => ?_
    refine wp_seq_k fun K5 hK5 => ?_
    refine wp_region_lit ?_
    refine wl (eL 45 1 0 (v := .agg #[.int .i64 b0, .int .i64 b1]) hF hM (by kernel_rfl) rfl rfl (by kernel_rfl) (by kernel_rfl) fun a w hF hM => ?_)
    refine wl (eL 46 5 0 (v := .agg #[.int .i64 (1 + bu % 1048576), .int .i64 (1 + ra % 2097152)]) hF hM (by kernel_rfl) rfl rfl (by kernel_rfl) (by kernel_rfl) fun a w hF hM => ?_)
    refine sB 1 [(47, .pointer (some ⟨bb5, 0, none⟩))] hF (by kernel_rfl) fun a hF => ?_
    refine wl (eL 48 5 0 (v := .int .i64 (1 + bu % 1048576)) hF hM (by kernel_rfl) rfl rfl (by kernel_rfl) (by kernel_rfl) fun a w hF hM => ?_)
    refine sB 3 [(49, .agg #[.int .i64 (1 + bu % 1048576), .int .i64 131072]), (50, .agg #[.int .i64 b0, .int .i64 b1, .int .i64 (1 + bu % 1048576), .int .i64 (1 + ra % 2097152), .int .i64 (1 + bu % 1048576), .int .i64 131072]), (51, .int .i64 0)] hF (by kernel_rfl) fun a hF => ?_
    refine wpList_nil ?_
    refine hK5 _ _ ?_
    refine wp_block ?_
    refine wp_loop_k (G := Nat) (fun gg a w => Fr 172 [(51, some (.int .i64 (gg : Int))), (6, some (.pointer (some ⟨bb3, 0, none⟩))), (7, some (.pointer (some ⟨bb4, 0, none⟩))), (9, some (.pointer (some ⟨bb5, 0, none⟩))), (10, some (.pointer (some ⟨bb6, 0, none⟩))), (50, some (.agg #[.int .i64 b0, .int .i64 b1, .int .i64 (1 + bu % 1048576), .int .i64 (1 + ra % 2097152), .int .i64 (1 + bu % 1048576), .int .i64 131072]))] a ∧ Mem w0.heap.size w0 [(3, some (.row bb3 29 #[.int .i64 sv0, .int .i64 sv1])), (4, some (.row bb4 31 #[.int .i64 x0, .int .i64 x1])), (5, some (.row bb5 23 #[.int .i64 (1 + bu % 1048576), .int .i64 (1 + ra % 2097152)])), (6, some (.row bb6 29 #[.int .i64 (sv0 % 18446744073709551616 % 99999), .int .i64 (sv1 % 18446744073709551616 % ((1 + bu % 1048576) * 1048576 + 1))]))] w ∧ ((gg : Int) ≤ 3)) (fun gg => 3 - gg) (0) ?_ ?_
    · refine ⟨(((((((Fr.nil hF).c hF (i := 50) rfl rfl).c hF (i := 10) rfl rfl).c hF (i := 9) rfl rfl).c hF (i := 7) rfl rfl).c hF (i := 6) rfl rfl).c hF (i := 51) rfl (vi (show (0 : Int) = (0 : Int) from by omega))), (hM.sub ((((Sub.nil.c (k := 6) rfl rfl).c (k := 5) rfl rfl).c (k := 4) rfl rfl).c (k := 3) rfl rfl)), (show (0 : Int) ≤ 3 from by omega)⟩
    · intro gg a w hI
      intro K6 hK6
      obtain ⟨k51, rfl⟩ : ∃ x, x = gg := ⟨_, rfl⟩
      try dsimp only at hI hK6
      obtain ⟨hF, hM, hz1⟩ := hI
      refine wp_seq_k fun K7 hK7 => ?_
      refine wp_region_lit ?_
      refine sB 1 [(52, .bool (decide ((k51 : Int) < 3)))] hF (by kernel_rfl) fun a hF => ?_
      refine wpList_nil ?_
      refine hK7 _ _ ?_
      refine wp_seq_k fun K8 hK8 => ?_
      by_cases hz2 : (k51 : Int) < 3
      · skip
        replace hF := hF.c hF (i := 52) (v := .bool true) rfl (bT hz2)
        refine cT hF (by kernel_rfl) (by kernel_rfl) ?_
        refine wp_skip ?_
        refine hK8 _ _ ?_
        refine wp_seq_k fun K9 hK9 => ?_
        refine wp_block ?_
        refine wp_seq_k fun K10 hK10 => ?_
        refine wp_region_lit ?_
        obtain ⟨ys2, hl2, hm2, hy2⟩ := idx_agg (P := Try.prog) (t := 34) (e := 23) (len := 3) (m := 2) (kd := .i64) [b0, b1, 1 + bu % 1048576, 1 + ra % 2097152, 1 + bu % 1048576, 131072] ((k51 : Int)) (by kernel_rfl) (by kernel_rfl) (by omega) rfl
        obtain ⟨y2_0, y2_1, rfl⟩ := len2 hl2
        refine wl (eM 53 (v := .agg #[.int .i64 y2_0, .int .i64 y2_1]) hF hM (by kernel_rfl) (yld_index (X := .agg #[.int .i64 b0, .int .i64 b1, .int .i64 (1 + bu % 1048576), .int .i64 (1 + ra % 2097152), .int .i64 (1 + bu % 1048576), .int .i64 131072]) (I := .int .i64 ((k51 : Int))) hF rfl (by kernel_rfl) (by kernel_rfl) (by kernel_rfl) (fun w => hy2 w)) fun a w hF hM => ?_)
        refine wl (eN 12 7 (t := 23) (fun b => .pointer (some ⟨b, 0, none⟩)) #[.int .i64 0, .int .i64 0] hF hM (by kernel_rfl) (fun _ => by kernel_rfl) fun bb7 a w hF hM => ?_)
        refine wl (sStore (i := 7) (off := 0) (cs' := #[.int .i64 y2_0, .int .i64 y2_1]) hF hM (by kernel_rfl) rfl rfl (by kernel_rfl) (by kernel_rfl) rfl (by kernel_rfl) fun w hM => ?_)
        refine wpList_nil ?_
        refine hK10 _ _ ?_
        refine wp_seq_k fun K11 hK11 => ?_
        refine wp_region_lit ?_
        refine wl (eL 55 7 0 (v := .agg #[.int .i64 y2_0, .int .i64 y2_1]) hF hM (by kernel_rfl) rfl rfl (by kernel_rfl) (by kernel_rfl) fun a w hF hM => ?_)
        refine wl (eM 56 (v := .tuple #[.agg #[.int .i64 0, .int .i64 (snL y2_0 y2_1)], .int .i64 (bkE y2_0 y2_1)]) hF hM (by kernel_rfl) (yld_call (f := 10) (args := #[.agg #[.int .i64 y2_0, .int .i64 y2_1]]) hF (by kernel_rfl) (fun _ => by kernel_rfl) (fun w hM => shNew_w y2_0 y2_1 w)) fun a w hF hM => ?_)
        refine sB 3 [(54, .tuple #[.agg #[.int .i64 0, .int .i64 (snL y2_0 y2_1)], .int .i64 (bkE y2_0 y2_1)]), (57, .agg #[.int .i64 0, .int .i64 (snL y2_0 y2_1)]), (58, .int .i64 (bkE y2_0 y2_1))] hF (by kernel_rfl) fun a hF => ?_
        refine wl (eN 13 8 (t := 29) (fun b => .pointer (some ⟨b, 0, none⟩)) #[.int .i64 0, .int .i64 0] hF hM (by kernel_rfl) (fun _ => by kernel_rfl) fun bb8 a w hF hM => ?_)
        refine wl (sStore (i := 8) (off := 0) (cs' := #[.int .i64 0, .int .i64 (snL y2_0 y2_1)]) hF hM (by kernel_rfl) rfl rfl (by kernel_rfl) (by kernel_rfl) rfl (by kernel_rfl) fun w hM => ?_)
        refine sB 1 [(14, .int .i64 (bkE y2_0 y2_1))] hF (by kernel_rfl) fun a hF => ?_
        refine wpList_nil ?_
        refine hK11 _ _ ?_
        refine wp_seq_k fun K12 hK12 => ?_
        refine wp_region_lit ?_
        refine wl (eL 60 7 0 (v := .agg #[.int .i64 y2_0, .int .i64 y2_1]) hF hM (by kernel_rfl) rfl rfl (by kernel_rfl) (by kernel_rfl) fun a w hF hM => ?_)
        refine wl (eM 61 (v := .tuple #[.agg #[.int .i64 0, .int .i64 (snL y2_0 y2_1)], .int .i64 (bkE y2_0 y2_1)]) hF hM (by kernel_rfl) (yld_call (f := 11) (args := #[.agg #[.int .i64 y2_0, .int .i64 y2_1]]) hF (by kernel_rfl) (fun _ => by kernel_rfl) (fun w hM => rNew34_w y2_0 y2_1 w)) fun a w hF hM => ?_)
        refine sB 3 [(59, .tuple #[.agg #[.int .i64 0, .int .i64 (snL y2_0 y2_1)], .int .i64 (bkE y2_0 y2_1)]), (62, .agg #[.int .i64 0, .int .i64 (snL y2_0 y2_1)]), (63, .int .i64 (bkE y2_0 y2_1))] hF (by kernel_rfl) fun a hF => ?_
        refine wl (eN 15 9 (t := 29) (fun b => .pointer (some ⟨b, 0, none⟩)) #[.int .i64 0, .int .i64 0] hF hM (by kernel_rfl) (fun _ => by kernel_rfl) fun bb9 a w hF hM => ?_)
        refine wl (sStore (i := 9) (off := 0) (cs' := #[.int .i64 0, .int .i64 (snL y2_0 y2_1)]) hF hM (by kernel_rfl) rfl rfl (by kernel_rfl) (by kernel_rfl) rfl (by kernel_rfl) fun w hM => ?_)
        refine sB 1 [(16, .int .i64 (bkE y2_0 y2_1))] hF (by kernel_rfl) fun a hF => ?_
        refine wpList_nil ?_
        refine hK12 _ _ ?_
        refine wp_seq_k fun K13 hK13 => ?_
        refine wp_seq_k fun K14 hK14 => ?_
        refine wp_region_lit ?_
        refine wl (eL 64 8 0 (v := .agg #[.int .i64 0, .int .i64 (snL y2_0 y2_1)]) hF hM (by kernel_rfl) rfl rfl (by kernel_rfl) (by kernel_rfl) fun a w hF hM => ?_)
        refine wl (eL 65 9 0 (v := .agg #[.int .i64 0, .int .i64 (snL y2_0 y2_1)]) hF hM (by kernel_rfl) rfl rfl (by kernel_rfl) (by kernel_rfl) fun a w hF hM => ?_)
        refine wl (eM 66 (v := .bool false) hF hM (by kernel_rfl) ((yld_neq (C := Mem _ _ _) [0, snL y2_0 y2_1] [0, snL y2_0 y2_1] hF rfl (by kernel_rfl) (by kernel_rfl) (by kernel_rfl) rfl (by kernel_rfl) (by kernel_rfl) (by kernel_rfl) rfl rfl).to (nT rfl)) fun a w hF hM => ?_)
        refine sB 3 [(67, .bool false), (68, .int .i64 (bkE y2_0 y2_1)), (69, .int .i64 (bkE y2_0 y2_1))] hF (by kernel_rfl) fun a hF => ?_
        refine wl (eP 70 (v0 := .bool (!decide (bkE y2_0 y2_1 = bkE y2_0 y2_1))) (v := .bool false) hF (by kernel_rfl) (fun _ => by kernel_rfl) (nT (by omega)) fun a hF => ?_)
        refine sB 1 [(71, .bool false)] hF (by kernel_rfl) fun a hF => ?_
        refine wpList_nil ?_
        refine hK14 _ _ ?_
        refine cF hF (by kernel_rfl) (by kernel_rfl) ?_
        refine wp_skip ?_
        refine hK13 _ _ ?_
        refine wp_seq_k fun K15 hK15 => ?_
        refine wp_region_lit ?_
        refine wl (eL 72 3 0 (v := .agg #[.int .i64 sv0, .int .i64 sv1]) hF hM (by kernel_rfl) rfl rfl (by kernel_rfl) (by kernel_rfl) fun a w hF hM => ?_)
        refine wl (eL 73 6 0 (v := .agg #[.int .i64 (sv0 % 18446744073709551616 % 99999), .int .i64 (sv1 % 18446744073709551616 % ((1 + bu % 1048576) * 1048576 + 1))]) hF hM (by kernel_rfl) rfl rfl (by kernel_rfl) (by kernel_rfl) fun a w hF hM => ?_)
        refine sB 1 [(74, .pointer (some ⟨bb3, 0, none⟩))] hF (by kernel_rfl) fun a hF => ?_
        refine wl (eL 75 3 0 (v := .int .i64 sv0) hF hM (by kernel_rfl) rfl rfl (by kernel_rfl) (by kernel_rfl) fun a w hF hM => ?_)
        refine sB 1 [(76, .pointer (some ⟨bb6, 1, none⟩))] hF (by kernel_rfl) fun a hF => ?_
        refine wl (eL 77 6 1 (v := .int .i64 (sv1 % 18446744073709551616 % ((1 + bu % 1048576) * 1048576 + 1))) hF hM (by kernel_rfl) rfl rfl (by kernel_rfl) (by kernel_rfl) fun a w hF hM => ?_)
        refine sB 2 [(78, .agg #[.int .i64 sv0, .int .i64 (sv1 % 18446744073709551616 % ((1 + bu % 1048576) * 1048576 + 1))]), (79, .pointer (some ⟨bb6, 0, none⟩))] hF (by kernel_rfl) fun a hF => ?_
        refine wl (eL 80 6 0 (v := .int .i64 (sv0 % 18446744073709551616 % 99999)) hF hM (by kernel_rfl) rfl rfl (by kernel_rfl) (by kernel_rfl) fun a w hF hM => ?_)
        refine sB 1 [(81, .pointer (some ⟨bb3, 1, none⟩))] hF (by kernel_rfl) fun a hF => ?_
        refine wl (eL 82 3 1 (v := .int .i64 sv1) hF hM (by kernel_rfl) rfl rfl (by kernel_rfl) (by kernel_rfl) fun a w hF hM => ?_)
        refine sB 1 [(83, .agg #[.int .i64 (sv0 % 18446744073709551616 % 99999), .int .i64 sv1])] hF (by kernel_rfl) fun a hF => ?_
        refine wl (eL 84 9 0 (v := .agg #[.int .i64 0, .int .i64 (snL y2_0 y2_1)]) hF hM (by kernel_rfl) rfl rfl (by kernel_rfl) (by kernel_rfl) fun a w hF hM => ?_)
        refine sB 1 [(85, .pointer (some ⟨bb6, 0, none⟩))] hF (by kernel_rfl) fun a hF => ?_
        refine wl (eL 86 6 0 (v := .int .i64 (sv0 % 18446744073709551616 % 99999)) hF hM (by kernel_rfl) rfl rfl (by kernel_rfl) (by kernel_rfl) fun a w hF hM => ?_)
        refine wl (eM 87 (v := .int .i64 (sv0 % 18446744073709551616 % 99999 % 9)) hF hM (by kernel_rfl) (yld_rem (sv0 % 18446744073709551616 % 99999) 9 hF rfl (by kernel_rfl) (by kernel_rfl) (by kernel_rfl) (by decide) (Int.tmod_eq_emod_of_nonneg (by omega))) fun a w hF hM => ?_)
        refine wl (eP 88 (v0 := .int .i64 (IntKind.i64.wrap (1099511627776 - sv0 % 18446744073709551616 % 99999 % 9))) (v := .int .i64 (1099511627776 - sv0 % 18446744073709551616 % 99999 % 9)) hF (by kernel_rfl) (fun _ => by kernel_rfl) (wi (by omega)) fun a hF => ?_)
        refine sB 1 [(89, .pointer (some ⟨bb6, 1, none⟩))] hF (by kernel_rfl) fun a hF => ?_
        refine wl (eL 90 6 1 (v := .int .i64 (sv1 % 18446744073709551616 % ((1 + bu % 1048576) * 1048576 + 1))) hF hM (by kernel_rfl) rfl rfl (by kernel_rfl) (by kernel_rfl) fun a w hF hM => ?_)
        refine sB 3 [(91, .agg #[.int .i64 (1099511627776 - sv0 % 18446744073709551616 % 99999 % 9), .int .i64 (sv1 % 18446744073709551616 % ((1 + bu % 1048576) * 1048576 + 1))]), (92, .agg #[.int .i64 sv0, .int .i64 sv1, .int .i64 (sv0 % 18446744073709551616 % 99999), .int .i64 (sv1 % 18446744073709551616 % ((1 + bu % 1048576) * 1048576 + 1)), .int .i64 sv0, .int .i64 (sv1 % 18446744073709551616 % ((1 + bu % 1048576) * 1048576 + 1)), .int .i64 (sv0 % 18446744073709551616 % 99999), .int .i64 sv1, .int .i64 0, .int .i64 (snL y2_0 y2_1), .int .i64 (1099511627776 - sv0 % 18446744073709551616 % 99999 % 9), .int .i64 (sv1 % 18446744073709551616 % ((1 + bu % 1048576) * 1048576 + 1))]), (93, .int .i64 0)] hF (by kernel_rfl) fun a hF => ?_
        refine wpList_nil ?_
        refine hK15 _ _ ?_
        refine wp_block ?_
        refine wp_loop_k (G := Nat) (fun gg a w => Fr 172 [(93, some (.int .i64 (gg : Int))), (6, some (.pointer (some ⟨bb3, 0, none⟩))), (7, some (.pointer (some ⟨bb4, 0, none⟩))), (9, some (.pointer (some ⟨bb5, 0, none⟩))), (10, some (.pointer (some ⟨bb6, 0, none⟩))), (12, some (.pointer (some ⟨bb7, 0, none⟩))), (50, some (.agg #[.int .i64 b0, .int .i64 b1, .int .i64 (1 + bu % 1048576), .int .i64 (1 + ra % 2097152), .int .i64 (1 + bu % 1048576), .int .i64 131072])), (51, some (.int .i64 (k51 : Int))), (92, some (.agg #[.int .i64 sv0, .int .i64 sv1, .int .i64 (sv0 % 18446744073709551616 % 99999), .int .i64 (sv1 % 18446744073709551616 % ((1 + bu % 1048576) * 1048576 + 1)), .int .i64 sv0, .int .i64 (sv1 % 18446744073709551616 % ((1 + bu % 1048576) * 1048576 + 1)), .int .i64 (sv0 % 18446744073709551616 % 99999), .int .i64 sv1, .int .i64 0, .int .i64 (snL y2_0 y2_1), .int .i64 (1099511627776 - sv0 % 18446744073709551616 % 99999 % 9), .int .i64 (sv1 % 18446744073709551616 % ((1 + bu % 1048576) * 1048576 + 1))]))] a ∧ Mem w0.heap.size w0 [(3, some (.row bb3 29 #[.int .i64 sv0, .int .i64 sv1])), (4, some (.row bb4 31 #[.int .i64 x0, .int .i64 x1])), (5, some (.row bb5 23 #[.int .i64 (1 + bu % 1048576), .int .i64 (1 + ra % 2097152)])), (6, some (.row bb6 29 #[.int .i64 (sv0 % 18446744073709551616 % 99999), .int .i64 (sv1 % 18446744073709551616 % ((1 + bu % 1048576) * 1048576 + 1))])), (7, some (.row bb7 23 #[.int .i64 y2_0, .int .i64 y2_1]))] w ∧ ((gg : Int) ≤ 6)) (fun gg => 6 - gg) (0) ?_ ?_
        · refine ⟨((((((((((Fr.nil hF).c hF (i := 92) rfl rfl).c hF (i := 51) rfl rfl).c hF (i := 50) rfl rfl).c hF (i := 12) rfl rfl).c hF (i := 10) rfl rfl).c hF (i := 9) rfl rfl).c hF (i := 7) rfl rfl).c hF (i := 6) rfl rfl).c hF (i := 93) rfl (vi (show (0 : Int) = (0 : Int) from by omega))), (hM.sub (((((Sub.nil.c (k := 7) rfl rfl).c (k := 6) rfl rfl).c (k := 5) rfl rfl).c (k := 4) rfl rfl).c (k := 3) rfl rfl)), (show (0 : Int) ≤ 6 from by omega)⟩
        · intro gg a w hI
          intro K16 hK16
          obtain ⟨k93, rfl⟩ : ∃ x, x = gg := ⟨_, rfl⟩
          try dsimp only at hI hK16
          obtain ⟨hF, hM, hz3⟩ := hI
          refine wp_seq_k fun K17 hK17 => ?_
          refine wp_region_lit ?_
          refine sB 1 [(94, .bool (decide ((k93 : Int) < 6)))] hF (by kernel_rfl) fun a hF => ?_
          refine wpList_nil ?_
          refine hK17 _ _ ?_
          refine wp_seq_k fun K18 hK18 => ?_
          by_cases hz4 : (k93 : Int) < 6
          · skip
            replace hF := hF.c hF (i := 94) (v := .bool true) rfl (bT hz4)
            refine cT hF (by kernel_rfl) (by kernel_rfl) ?_
            refine wp_skip ?_
            refine hK18 _ _ ?_
            refine wp_seq_k fun K19 hK19 => ?_
            refine wp_block ?_
            refine wp_seq_k fun K20 hK20 => ?_
            refine wp_region_lit ?_
            obtain ⟨ys4, hl4, hm4, hy4⟩ := idx_agg (P := Try.prog) (t := 38) (e := 29) (len := 6) (m := 2) (kd := .i64) [sv0, sv1, sv0 % 18446744073709551616 % 99999, sv1 % 18446744073709551616 % ((1 + bu % 1048576) * 1048576 + 1), sv0, sv1 % 18446744073709551616 % ((1 + bu % 1048576) * 1048576 + 1), sv0 % 18446744073709551616 % 99999, sv1, 0, snL y2_0 y2_1, 1099511627776 - sv0 % 18446744073709551616 % 99999 % 9, sv1 % 18446744073709551616 % ((1 + bu % 1048576) * 1048576 + 1)] ((k93 : Int)) (by kernel_rfl) (by kernel_rfl) (by omega) rfl
            obtain ⟨y4_0, y4_1, rfl⟩ := len2 hl4
            refine wl (eM 95 (v := .agg #[.int .i64 y4_0, .int .i64 y4_1]) hF hM (by kernel_rfl) (yld_index (X := .agg #[.int .i64 sv0, .int .i64 sv1, .int .i64 (sv0 % 18446744073709551616 % 99999), .int .i64 (sv1 % 18446744073709551616 % ((1 + bu % 1048576) * 1048576 + 1)), .int .i64 sv0, .int .i64 (sv1 % 18446744073709551616 % ((1 + bu % 1048576) * 1048576 + 1)), .int .i64 (sv0 % 18446744073709551616 % 99999), .int .i64 sv1, .int .i64 0, .int .i64 (snL y2_0 y2_1), .int .i64 (1099511627776 - sv0 % 18446744073709551616 % 99999 % 9), .int .i64 (sv1 % 18446744073709551616 % ((1 + bu % 1048576) * 1048576 + 1))]) (I := .int .i64 ((k93 : Int))) hF rfl (by kernel_rfl) (by kernel_rfl) (by kernel_rfl) (fun w => hy4 w)) fun a w hF hM => ?_)
            refine wl (eN 18 10 (t := 29) (fun b => .pointer (some ⟨b, 0, none⟩)) #[.int .i64 0, .int .i64 0] hF hM (by kernel_rfl) (fun _ => by kernel_rfl) fun bb10 a w hF hM => ?_)
            refine wl (sStore (i := 10) (off := 0) (cs' := #[.int .i64 y4_0, .int .i64 y4_1]) hF hM (by kernel_rfl) rfl rfl (by kernel_rfl) (by kernel_rfl) rfl (by kernel_rfl) fun w hM => ?_)
            refine wpList_nil ?_
            refine hK20 _ _ ?_
            refine wp_seq_k fun K21 hK21 => ?_
            refine wp_seq_k fun K22 hK22 => ?_
            refine rQ hM (by kernel_rfl) (by kernel_rfl) ?_
            refine eQL 96 7 0 (v := .agg #[.int .i64 y2_0, .int .i64 y2_1]) hF (by kernel_rfl) rfl rfl (by kernel_rfl) (by kernel_rfl) fun a hF => ?_
            refine eQL 97 10 0 (v := .agg #[.int .i64 y4_0, .int .i64 y4_1]) hF (by kernel_rfl) rfl rfl (by kernel_rfl) (by kernel_rfl) fun a hF => ?_
            refine eQ2 98 (v := .int .i64 (skE y2_0 y2_1 y4_0 y4_1)) hF (by kernel_rfl) (yld_call (f := 12) (args := #[.agg #[.int .i64 y2_0, .int .i64 y2_1], .agg #[.int .i64 y4_0, .int .i64 y4_1]]) hF (by kernel_rfl) (fun _ => by kernel_rfl) (fun w hM => shCheck_w y2_0 y2_1 y4_0 y4_1 w)) fun a hF => ?_
            refine eQL 99 7 0 (v := .agg #[.int .i64 y2_0, .int .i64 y2_1]) hF (by kernel_rfl) rfl rfl (by kernel_rfl) (by kernel_rfl) fun a hF => ?_
            refine eQL 100 10 0 (v := .agg #[.int .i64 y4_0, .int .i64 y4_1]) hF (by kernel_rfl) rfl rfl (by kernel_rfl) (by kernel_rfl) fun a hF => ?_
            refine eQ2 101 (v := .int .i64 (skE y2_0 y2_1 y4_0 y4_1)) hF (by kernel_rfl) (yld_call (f := 13) (args := #[.agg #[.int .i64 y2_0, .int .i64 y2_1], .agg #[.int .i64 y4_0, .int .i64 y4_1]]) hF (by kernel_rfl) (fun _ => by kernel_rfl) (fun w hM => rCheck34_w y2_0 y2_1 y4_0 y4_1 w)) fun a hF => ?_
            refine eQ 102 (v0 := .bool (!decide (skE y2_0 y2_1 y4_0 y4_1 = skE y2_0 y2_1 y4_0 y4_1))) (v := .bool false) hF (by kernel_rfl) (fun _ => by kernel_rfl) (nT (by omega)) fun a hF => ?_
            refine wpQuiet_nil ?_
            intro w hM
            refine hK22 _ _ ?_
            refine cF hF (by kernel_rfl) (by kernel_rfl) ?_
            refine wp_skip ?_
            refine hK21 _ _ ?_
            refine wp_seq_k fun K23 hK23 => ?_
            refine rQ hM (by kernel_rfl) (by kernel_rfl) ?_
            refine eQL 103 4 0 (v := .agg #[.int .i64 x0, .int .i64 x1]) hF (by kernel_rfl) rfl rfl (by kernel_rfl) (by kernel_rfl) fun a hF => ?_
            refine eQ 104 (v0 := .pointer (some ⟨bb10, 0, none⟩)) (v := .pointer (some ⟨bb10, 0, none⟩)) hF (by kernel_rfl) (fun _ => by kernel_rfl) rfl fun a hF => ?_
            refine eQL 105 10 0 (v := .int .i64 y4_0) hF (by kernel_rfl) rfl rfl (by kernel_rfl) (by kernel_rfl) fun a hF => ?_
            refine eQ 106 (v0 := .pointer (some ⟨bb4, 1, none⟩)) (v := .pointer (some ⟨bb4, 1, none⟩)) hF (by kernel_rfl) (fun _ => by kernel_rfl) rfl fun a hF => ?_
            refine eQL 107 4 1 (v := .int .i64 x1) hF (by kernel_rfl) rfl rfl (by kernel_rfl) (by kernel_rfl) fun a hF => ?_
            refine eQ 108 (v0 := .agg #[.int .i64 y4_0, .int .i64 x1]) (v := .agg #[.int .i64 y4_0, .int .i64 x1]) hF (by kernel_rfl) (fun _ => by kernel_rfl) rfl fun a hF => ?_
            refine eQ 109 (v0 := .pointer (some ⟨bb4, 0, none⟩)) (v := .pointer (some ⟨bb4, 0, none⟩)) hF (by kernel_rfl) (fun _ => by kernel_rfl) rfl fun a hF => ?_
            refine eQL 110 4 0 (v := .int .i64 x0) hF (by kernel_rfl) rfl rfl (by kernel_rfl) (by kernel_rfl) fun a hF => ?_
            refine eQ 111 (v0 := .int .u64 (IntKind.u64.wrap x0)) (v := .int .u64 (x0 % 18446744073709551616)) hF (by kernel_rfl) (fun _ => by kernel_rfl) (vi (u64_wrap _)) fun a hF => ?_
            refine eQ2 112 (v := .int .u64 (x0 % 18446744073709551616 % 1048576)) hF (by kernel_rfl) (yld_rem (x0 % 18446744073709551616) 1048576 hF rfl (by kernel_rfl) (by kernel_rfl) (by kernel_rfl) (by decide) (Int.tmod_eq_emod_of_nonneg (by omega))) fun a hF => ?_
            refine eQ 113 (v0 := .int .i64 (IntKind.i64.wrap (x0 % 18446744073709551616 % 1048576))) (v := .int .i64 (x0 % 18446744073709551616 % 1048576)) hF (by kernel_rfl) (fun _ => by kernel_rfl) (vi (IntWalk.i64_in _ (by omega))) fun a hF => ?_
            refine eQ 114 (v0 := .pointer (some ⟨bb4, 1, none⟩)) (v := .pointer (some ⟨bb4, 1, none⟩)) hF (by kernel_rfl) (fun _ => by kernel_rfl) rfl fun a hF => ?_
            refine eQL 115 4 1 (v := .int .i64 x1) hF (by kernel_rfl) rfl rfl (by kernel_rfl) (by kernel_rfl) fun a hF => ?_
            refine eQ 116 (v0 := .int .u64 (IntKind.u64.wrap x1)) (v := .int .u64 (x1 % 18446744073709551616)) hF (by kernel_rfl) (fun _ => by kernel_rfl) (vi (u64_wrap _)) fun a hF => ?_
            refine eQ 117 (v0 := .pointer (some ⟨bb5, 0, none⟩)) (v := .pointer (some ⟨bb5, 0, none⟩)) hF (by kernel_rfl) (fun _ => by kernel_rfl) rfl fun a hF => ?_
            refine eQL 118 5 0 (v := .int .i64 (1 + bu % 1048576)) hF (by kernel_rfl) rfl rfl (by kernel_rfl) (by kernel_rfl) fun a hF => ?_
            refine eQ 119 (v0 := .int .u64 (IntKind.u64.wrap (1 + bu % 1048576))) (v := .int .u64 (1 + bu % 1048576)) hF (by kernel_rfl) (fun _ => by kernel_rfl) (vi (IntWalk.u64_in _ (by omega))) fun a hF => ?_
            refine eQ2 120 (v := .int .u64 (x1 % 18446744073709551616 % (1 + bu % 1048576))) hF (by kernel_rfl) (yld_rem (x1 % 18446744073709551616) (1 + bu % 1048576) hF rfl (by kernel_rfl) (by kernel_rfl) (by kernel_rfl) (by omega) (Int.tmod_eq_emod_of_nonneg (by omega))) fun a hF => ?_
            have := emod_bd (p := x1 % 18446744073709551616) (q := 1 + bu % 1048576) (by omega) (by omega)
            refine eQ 121 (v0 := .int .i64 (IntKind.i64.wrap (x1 % 18446744073709551616 % (1 + bu % 1048576)))) (v := .int .i64 (x1 % 18446744073709551616 % (1 + bu % 1048576))) hF (by kernel_rfl) (fun _ => by kernel_rfl) (vi (IntWalk.i64_in _ (by omega))) fun a hF => ?_
            refine eQ 122 (v0 := .int .i64 (IntKind.i64.wrap (1 + x1 % 18446744073709551616 % (1 + bu % 1048576)))) (v := .int .i64 (1 + x1 % 18446744073709551616 % (1 + bu % 1048576))) hF (by kernel_rfl) (fun _ => by kernel_rfl) (wi (by omega)) fun a hF => ?_
            refine eQ 123 (v0 := .agg #[.int .i64 (x0 % 18446744073709551616 % 1048576), .int .i64 (1 + x1 % 18446744073709551616 % (1 + bu % 1048576))]) (v := .agg #[.int .i64 (x0 % 18446744073709551616 % 1048576), .int .i64 (1 + x1 % 18446744073709551616 % (1 + bu % 1048576))]) hF (by kernel_rfl) (fun _ => by kernel_rfl) rfl fun a hF => ?_
            refine eQ 124 (v0 := .pointer (some ⟨bb4, 0, none⟩)) (v := .pointer (some ⟨bb4, 0, none⟩)) hF (by kernel_rfl) (fun _ => by kernel_rfl) rfl fun a hF => ?_
            refine eQL 125 4 0 (v := .int .i64 x0) hF (by kernel_rfl) rfl rfl (by kernel_rfl) (by kernel_rfl) fun a hF => ?_
            refine eQ 126 (v0 := .pointer (some ⟨bb5, 0, none⟩)) (v := .pointer (some ⟨bb5, 0, none⟩)) hF (by kernel_rfl) (fun _ => by kernel_rfl) rfl fun a hF => ?_
            refine eQL 127 5 0 (v := .int .i64 (1 + bu % 1048576)) hF (by kernel_rfl) rfl rfl (by kernel_rfl) (by kernel_rfl) fun a hF => ?_
            refine eQ 128 (v0 := .agg #[.int .i64 x0, .int .i64 (1 + bu % 1048576)]) (v := .agg #[.int .i64 x0, .int .i64 (1 + bu % 1048576)]) hF (by kernel_rfl) (fun _ => by kernel_rfl) rfl fun a hF => ?_
            refine eQ 129 (v0 := .agg #[.int .i64 x0, .int .i64 x1, .int .i64 y4_0, .int .i64 x1, .int .i64 (x0 % 18446744073709551616 % 1048576), .int .i64 (1 + x1 % 18446744073709551616 % (1 + bu % 1048576)), .int .i64 x0, .int .i64 (1 + bu % 1048576)]) (v := .agg #[.int .i64 x0, .int .i64 x1, .int .i64 y4_0, .int .i64 x1, .int .i64 (x0 % 18446744073709551616 % 1048576), .int .i64 (1 + x1 % 18446744073709551616 % (1 + bu % 1048576)), .int .i64 x0, .int .i64 (1 + bu % 1048576)]) hF (by kernel_rfl) (fun _ => by kernel_rfl) rfl fun a hF => ?_
            refine eQ 130 (v0 := .int .i64 0) (v := .int .i64 0) hF (by kernel_rfl) (fun _ => by kernel_rfl) rfl fun a hF => ?_
            refine wpQuiet_nil ?_
            intro w hM
            refine hK23 _ _ ?_
            refine wp_block ?_
            refine wp_loop_k (G := Nat) (fun gg a w => Fr 172 [(130, some (.int .i64 (gg : Int))), (6, some (.pointer (some ⟨bb3, 0, none⟩))), (7, some (.pointer (some ⟨bb4, 0, none⟩))), (9, some (.pointer (some ⟨bb5, 0, none⟩))), (10, some (.pointer (some ⟨bb6, 0, none⟩))), (12, some (.pointer (some ⟨bb7, 0, none⟩))), (18, some (.pointer (some ⟨bb10, 0, none⟩))), (50, some (.agg #[.int .i64 b0, .int .i64 b1, .int .i64 (1 + bu % 1048576), .int .i64 (1 + ra % 2097152), .int .i64 (1 + bu % 1048576), .int .i64 131072])), (51, some (.int .i64 (k51 : Int))), (92, some (.agg #[.int .i64 sv0, .int .i64 sv1, .int .i64 (sv0 % 18446744073709551616 % 99999), .int .i64 (sv1 % 18446744073709551616 % ((1 + bu % 1048576) * 1048576 + 1)), .int .i64 sv0, .int .i64 (sv1 % 18446744073709551616 % ((1 + bu % 1048576) * 1048576 + 1)), .int .i64 (sv0 % 18446744073709551616 % 99999), .int .i64 sv1, .int .i64 0, .int .i64 (snL y2_0 y2_1), .int .i64 (1099511627776 - sv0 % 18446744073709551616 % 99999 % 9), .int .i64 (sv1 % 18446744073709551616 % ((1 + bu % 1048576) * 1048576 + 1))])), (93, some (.int .i64 (k93 : Int))), (129, some (.agg #[.int .i64 x0, .int .i64 x1, .int .i64 y4_0, .int .i64 x1, .int .i64 (x0 % 18446744073709551616 % 1048576), .int .i64 (1 + x1 % 18446744073709551616 % (1 + bu % 1048576)), .int .i64 x0, .int .i64 (1 + bu % 1048576)]))] a ∧ Mem w0.heap.size w0 [(3, some (.row bb3 29 #[.int .i64 sv0, .int .i64 sv1])), (4, some (.row bb4 31 #[.int .i64 x0, .int .i64 x1])), (5, some (.row bb5 23 #[.int .i64 (1 + bu % 1048576), .int .i64 (1 + ra % 2097152)])), (6, some (.row bb6 29 #[.int .i64 (sv0 % 18446744073709551616 % 99999), .int .i64 (sv1 % 18446744073709551616 % ((1 + bu % 1048576) * 1048576 + 1))])), (7, some (.row bb7 23 #[.int .i64 y2_0, .int .i64 y2_1])), (10, some (.row bb10 29 #[.int .i64 y4_0, .int .i64 y4_1]))] w ∧ ((gg : Int) ≤ 4)) (fun gg => 4 - gg) (0) ?_ ?_
            · refine ⟨(((((((((((((Fr.nil hF).c hF (i := 129) rfl rfl).c hF (i := 93) rfl rfl).c hF (i := 92) rfl rfl).c hF (i := 51) rfl rfl).c hF (i := 50) rfl rfl).c hF (i := 18) rfl rfl).c hF (i := 12) rfl rfl).c hF (i := 10) rfl rfl).c hF (i := 9) rfl rfl).c hF (i := 7) rfl rfl).c hF (i := 6) rfl rfl).c hF (i := 130) rfl (vi (show (0 : Int) = (0 : Int) from by omega))), (hM.sub ((((((Sub.nil.c (k := 10) rfl rfl).c (k := 7) rfl rfl).c (k := 6) rfl rfl).c (k := 5) rfl rfl).c (k := 4) rfl rfl).c (k := 3) rfl rfl)), (show (0 : Int) ≤ 4 from by omega)⟩
            · intro gg a w hI
              intro K24 hK24
              obtain ⟨k130, rfl⟩ : ∃ x, x = gg := ⟨_, rfl⟩
              try dsimp only at hI hK24
              obtain ⟨hF, hM, hz5⟩ := hI
              refine wp_seq_k fun K25 hK25 => ?_
              refine wp_region_lit ?_
              refine sB 1 [(131, .bool (decide ((k130 : Int) < 4)))] hF (by kernel_rfl) fun a hF => ?_
              refine wpList_nil ?_
              refine hK25 _ _ ?_
              refine wp_seq_k fun K26 hK26 => ?_
              by_cases hz6 : (k130 : Int) < 4
              · skip
                replace hF := hF.c hF (i := 131) (v := .bool true) rfl (bT hz6)
                refine cT hF (by kernel_rfl) (by kernel_rfl) ?_
                refine wp_skip ?_
                refine hK26 _ _ ?_
                refine wp_seq_k fun K27 hK27 => ?_
                refine wp_block ?_
                refine wp_seq_k fun K28 hK28 => ?_
                refine wp_region_lit ?_
                obtain ⟨ys6, hl6, hm6, hy6⟩ := idx_agg (P := Try.prog) (t := 40) (e := 31) (len := 4) (m := 2) (kd := .i64) [x0, x1, y4_0, x1, x0 % 18446744073709551616 % 1048576, 1 + x1 % 18446744073709551616 % (1 + bu % 1048576), x0, 1 + bu % 1048576] ((k130 : Int)) (by kernel_rfl) (by kernel_rfl) (by omega) rfl
                obtain ⟨y6_0, y6_1, rfl⟩ := len2 hl6
                refine wl (eM 132 (v := .agg #[.int .i64 y6_0, .int .i64 y6_1]) hF hM (by kernel_rfl) (yld_index (X := .agg #[.int .i64 x0, .int .i64 x1, .int .i64 y4_0, .int .i64 x1, .int .i64 (x0 % 18446744073709551616 % 1048576), .int .i64 (1 + x1 % 18446744073709551616 % (1 + bu % 1048576)), .int .i64 x0, .int .i64 (1 + bu % 1048576)]) (I := .int .i64 ((k130 : Int))) hF rfl (by kernel_rfl) (by kernel_rfl) (by kernel_rfl) (fun w => hy6 w)) fun a w hF hM => ?_)
                refine wl (eN 20 11 (t := 31) (fun b => .pointer (some ⟨b, 0, none⟩)) #[.int .i64 0, .int .i64 0] hF hM (by kernel_rfl) (fun _ => by kernel_rfl) fun bb11 a w hF hM => ?_)
                refine wl (sStore (i := 11) (off := 0) (cs' := #[.int .i64 y6_0, .int .i64 y6_1]) hF hM (by kernel_rfl) rfl rfl (by kernel_rfl) (by kernel_rfl) rfl (by kernel_rfl) fun w hM => ?_)
                refine wpList_nil ?_
                refine hK28 _ _ ?_
                refine wp_seq_k fun K29 hK29 => ?_
                refine wp_region_lit ?_
                refine wl (eL 134 7 0 (v := .agg #[.int .i64 y2_0, .int .i64 y2_1]) hF hM (by kernel_rfl) rfl rfl (by kernel_rfl) (by kernel_rfl) fun a w hF hM => ?_)
                refine wl (eL 135 10 0 (v := .agg #[.int .i64 y4_0, .int .i64 y4_1]) hF hM (by kernel_rfl) rfl rfl (by kernel_rfl) (by kernel_rfl) fun a w hF hM => ?_)
                refine sB 1 [(136, .pointer (some ⟨bb11, 0, none⟩))] hF (by kernel_rfl) fun a hF => ?_
                refine wl (eL 137 11 0 (v := .int .i64 y6_0) hF hM (by kernel_rfl) rfl rfl (by kernel_rfl) (by kernel_rfl) fun a w hF hM => ?_)
                refine sB 1 [(138, .pointer (some ⟨bb11, 1, none⟩))] hF (by kernel_rfl) fun a hF => ?_
                refine wl (eL 139 11 1 (v := .int .i64 y6_1) hF hM (by kernel_rfl) rfl rfl (by kernel_rfl) (by kernel_rfl) fun a w hF hM => ?_)
                refine wl (eM 140 (v := .tuple #[.int .i64 (seT y2_0 y2_1 y4_0 y4_1 y6_0 y6_1), .agg #[.int .i64 (seT y2_0 y2_1 y4_0 y4_1 y6_0 y6_1), .int .i64 (seL y2_0 y2_1 y4_0 y4_1 y6_0 y6_1)], .int .i64 (seE y2_0 y2_1 y4_0 y4_1 y6_0 y6_1)]) hF hM (by kernel_rfl) (yld_call (f := 14) (args := #[.agg #[.int .i64 y2_0, .int .i64 y2_1], .agg #[.int .i64 y4_0, .int .i64 y4_1], .int .i64 y6_0, .int .i64 y6_1]) hF (by kernel_rfl) (fun _ => by kernel_rfl) (fun w hM => shElig_w y2_0 y2_1 y4_0 y4_1 y6_0 y6_1 w)) fun a w hF hM => ?_)
                refine sB 4 [(133, .tuple #[.int .i64 (seT y2_0 y2_1 y4_0 y4_1 y6_0 y6_1), .agg #[.int .i64 (seT y2_0 y2_1 y4_0 y4_1 y6_0 y6_1), .int .i64 (seL y2_0 y2_1 y4_0 y4_1 y6_0 y6_1)], .int .i64 (seE y2_0 y2_1 y4_0 y4_1 y6_0 y6_1)]), (141, .int .i64 (seT y2_0 y2_1 y4_0 y4_1 y6_0 y6_1)), (142, .agg #[.int .i64 (seT y2_0 y2_1 y4_0 y4_1 y6_0 y6_1), .int .i64 (seL y2_0 y2_1 y4_0 y4_1 y6_0 y6_1)]), (143, .int .i64 (seE y2_0 y2_1 y4_0 y4_1 y6_0 y6_1))] hF (by kernel_rfl) fun a hF => ?_
                refine wl (eN 22 12 (t := 29) (fun b => .pointer (some ⟨b, 0, none⟩)) #[.int .i64 0, .int .i64 0] hF hM (by kernel_rfl) (fun _ => by kernel_rfl) fun bb12 a w hF hM => ?_)
                refine sB 1 [(21, .int .i64 (seT y2_0 y2_1 y4_0 y4_1 y6_0 y6_1))] hF (by kernel_rfl) fun a hF => ?_
                refine wl (sStore (i := 12) (off := 0) (cs' := #[.int .i64 (seT y2_0 y2_1 y4_0 y4_1 y6_0 y6_1), .int .i64 (seL y2_0 y2_1 y4_0 y4_1 y6_0 y6_1)]) hF hM (by kernel_rfl) rfl rfl (by kernel_rfl) (by kernel_rfl) rfl (by kernel_rfl) fun w hM => ?_)
                refine sB 1 [(23, .int .i64 (seE y2_0 y2_1 y4_0 y4_1 y6_0 y6_1))] hF (by kernel_rfl) fun a hF => ?_
                refine wpList_nil ?_
                refine hK29 _ _ ?_
                refine wp_seq_k fun K30 hK30 => ?_
                refine wp_region_lit ?_
                refine wl (eL 145 7 0 (v := .agg #[.int .i64 y2_0, .int .i64 y2_1]) hF hM (by kernel_rfl) rfl rfl (by kernel_rfl) (by kernel_rfl) fun a w hF hM => ?_)
                refine wl (eL 146 10 0 (v := .agg #[.int .i64 y4_0, .int .i64 y4_1]) hF hM (by kernel_rfl) rfl rfl (by kernel_rfl) (by kernel_rfl) fun a w hF hM => ?_)
                refine sB 1 [(147, .pointer (some ⟨bb11, 0, none⟩))] hF (by kernel_rfl) fun a hF => ?_
                refine wl (eL 148 11 0 (v := .int .i64 y6_0) hF hM (by kernel_rfl) rfl rfl (by kernel_rfl) (by kernel_rfl) fun a w hF hM => ?_)
                refine sB 1 [(149, .pointer (some ⟨bb11, 1, none⟩))] hF (by kernel_rfl) fun a hF => ?_
                refine wl (eL 150 11 1 (v := .int .i64 y6_1) hF hM (by kernel_rfl) rfl rfl (by kernel_rfl) (by kernel_rfl) fun a w hF hM => ?_)
                refine wl (eM 151 (v := .tuple #[.int .i64 (seT y2_0 y2_1 y4_0 y4_1 y6_0 y6_1), .agg #[.int .i64 (seT y2_0 y2_1 y4_0 y4_1 y6_0 y6_1), .int .i64 (seL y2_0 y2_1 y4_0 y4_1 y6_0 y6_1)], .int .i64 (seE y2_0 y2_1 y4_0 y4_1 y6_0 y6_1)]) hF hM (by kernel_rfl) (yld_call (f := 15) (args := #[.agg #[.int .i64 y2_0, .int .i64 y2_1], .agg #[.int .i64 y4_0, .int .i64 y4_1], .int .i64 y6_0, .int .i64 y6_1]) hF (by kernel_rfl) (fun _ => by kernel_rfl) (fun w hM => rElig34_w y2_0 y2_1 y4_0 y4_1 y6_0 y6_1 w)) fun a w hF hM => ?_)
                refine sB 4 [(144, .tuple #[.int .i64 (seT y2_0 y2_1 y4_0 y4_1 y6_0 y6_1), .agg #[.int .i64 (seT y2_0 y2_1 y4_0 y4_1 y6_0 y6_1), .int .i64 (seL y2_0 y2_1 y4_0 y4_1 y6_0 y6_1)], .int .i64 (seE y2_0 y2_1 y4_0 y4_1 y6_0 y6_1)]), (152, .int .i64 (seT y2_0 y2_1 y4_0 y4_1 y6_0 y6_1)), (153, .agg #[.int .i64 (seT y2_0 y2_1 y4_0 y4_1 y6_0 y6_1), .int .i64 (seL y2_0 y2_1 y4_0 y4_1 y6_0 y6_1)]), (154, .int .i64 (seE y2_0 y2_1 y4_0 y4_1 y6_0 y6_1))] hF (by kernel_rfl) fun a hF => ?_
                refine wl (eN 25 13 (t := 29) (fun b => .pointer (some ⟨b, 0, none⟩)) #[.int .i64 0, .int .i64 0] hF hM (by kernel_rfl) (fun _ => by kernel_rfl) fun bb13 a w hF hM => ?_)
                refine sB 1 [(24, .int .i64 (seT y2_0 y2_1 y4_0 y4_1 y6_0 y6_1))] hF (by kernel_rfl) fun a hF => ?_
                refine wl (sStore (i := 13) (off := 0) (cs' := #[.int .i64 (seT y2_0 y2_1 y4_0 y4_1 y6_0 y6_1), .int .i64 (seL y2_0 y2_1 y4_0 y4_1 y6_0 y6_1)]) hF hM (by kernel_rfl) rfl rfl (by kernel_rfl) (by kernel_rfl) rfl (by kernel_rfl) fun w hM => ?_)
                refine sB 1 [(26, .int .i64 (seE y2_0 y2_1 y4_0 y4_1 y6_0 y6_1))] hF (by kernel_rfl) fun a hF => ?_
                refine wpList_nil ?_
                refine hK30 _ _ ?_
                refine wp_seq_k fun K31 hK31 => ?_
                refine wp_region_lit ?_
                refine sB 2 [(155, .int .i64 (seT y2_0 y2_1 y4_0 y4_1 y6_0 y6_1)), (156, .int .i64 (seT y2_0 y2_1 y4_0 y4_1 y6_0 y6_1))] hF (by kernel_rfl) fun a hF => ?_
                refine wl (eP 157 (v0 := .bool (!decide (seT y2_0 y2_1 y4_0 y4_1 y6_0 y6_1 = seT y2_0 y2_1 y4_0 y4_1 y6_0 y6_1))) (v := .bool false) hF (by kernel_rfl) (fun _ => by kernel_rfl) (nT (by omega)) fun a hF => ?_)
                refine sB 1 [(158, .bool false)] hF (by kernel_rfl) fun a hF => ?_
                refine wl (eL 159 12 0 (v := .agg #[.int .i64 (seT y2_0 y2_1 y4_0 y4_1 y6_0 y6_1), .int .i64 (seL y2_0 y2_1 y4_0 y4_1 y6_0 y6_1)]) hF hM (by kernel_rfl) rfl rfl (by kernel_rfl) (by kernel_rfl) fun a w hF hM => ?_)
                refine wl (eL 160 13 0 (v := .agg #[.int .i64 (seT y2_0 y2_1 y4_0 y4_1 y6_0 y6_1), .int .i64 (seL y2_0 y2_1 y4_0 y4_1 y6_0 y6_1)]) hF hM (by kernel_rfl) rfl rfl (by kernel_rfl) (by kernel_rfl) fun a w hF hM => ?_)
                refine wl (eM 161 (v := .bool false) hF hM (by kernel_rfl) ((yld_neq (C := Mem _ _ _) [seT y2_0 y2_1 y4_0 y4_1 y6_0 y6_1, seL y2_0 y2_1 y4_0 y4_1 y6_0 y6_1] [seT y2_0 y2_1 y4_0 y4_1 y6_0 y6_1, seL y2_0 y2_1 y4_0 y4_1 y6_0 y6_1] hF rfl (by kernel_rfl) (by kernel_rfl) (by kernel_rfl) rfl (by kernel_rfl) (by kernel_rfl) (by kernel_rfl) rfl rfl).to (nT rfl)) fun a w hF hM => ?_)
                refine sB 4 [(162, .bool false), (163, .bool false), (164, .int .i64 (seE y2_0 y2_1 y4_0 y4_1 y6_0 y6_1)), (165, .int .i64 (seE y2_0 y2_1 y4_0 y4_1 y6_0 y6_1))] hF (by kernel_rfl) fun a hF => ?_
                refine wl (eP 166 (v0 := .bool (!decide (seE y2_0 y2_1 y4_0 y4_1 y6_0 y6_1 = seE y2_0 y2_1 y4_0 y4_1 y6_0 y6_1))) (v := .bool false) hF (by kernel_rfl) (fun _ => by kernel_rfl) (nT (by omega)) fun a hF => ?_)
                refine sB 1 [(167, .bool false)] hF (by kernel_rfl) fun a hF => ?_
                refine wpList_nil ?_
                refine hK31 _ _ ?_
                refine cF hF (by kernel_rfl) (by kernel_rfl) ?_
                refine wp_skip ?_
                refine hK27 _ _ ?_
                refine wp_region_lit ?_
                refine wl (eP 168 (v0 := .int .i64 (IntKind.i64.wrap ((k130 : Int) + 1))) (v := .int .i64 ((k130 : Int) + 1)) hF (by kernel_rfl) (fun _ => by kernel_rfl) (wi (by omega)) fun a hF => ?_)
                refine sB 1 [(130, .int .i64 ((k130 : Int) + 1))] hF (by kernel_rfl) fun a hF => ?_
                refine wpList_nil ?_
                refine hK24 _ _ ⟨(k130 + 1), ⟨(((((((((((((Fr.nil hF).c hF (i := 129) rfl rfl).c hF (i := 93) rfl rfl).c hF (i := 92) rfl rfl).c hF (i := 51) rfl rfl).c hF (i := 50) rfl rfl).c hF (i := 18) rfl rfl).c hF (i := 12) rfl rfl).c hF (i := 10) rfl rfl).c hF (i := 9) rfl rfl).c hF (i := 7) rfl rfl).c hF (i := 6) rfl rfl).c hF (i := 130) rfl (vi (show ((k130 : Int) + 1 : Int) = ((k130 + 1) : Int) from by omega))), (hM.sub ((((((Sub.nil.c (k := 10) rfl rfl).c (k := 7) rfl rfl).c (k := 6) rfl rfl).c (k := 5) rfl rfl).c (k := 4) rfl rfl).c (k := 3) rfl rfl)), (show ((k130 + 1) : Int) ≤ 4 from by omega)⟩, (show 4 - (k130 + 1) < 4 - k130 from by omega)⟩
              · skip
                replace hF := hF.c hF (i := 131) (v := .bool false) rfl (bF hz6)
                refine cF hF (by kernel_rfl) (by kernel_rfl) ?_
                refine wp_exit ?_
                refine hK19 _ _ ?_
                refine wp_region_lit ?_
                refine wl (eP 169 (v0 := .int .i64 (IntKind.i64.wrap ((k93 : Int) + 1))) (v := .int .i64 ((k93 : Int) + 1)) hF (by kernel_rfl) (fun _ => by kernel_rfl) (wi (by omega)) fun a hF => ?_)
                refine sB 1 [(93, .int .i64 ((k93 : Int) + 1))] hF (by kernel_rfl) fun a hF => ?_
                refine wpList_nil ?_
                refine hK16 _ _ ⟨(k93 + 1), ⟨((((((((((Fr.nil hF).c hF (i := 92) rfl rfl).c hF (i := 51) rfl rfl).c hF (i := 50) rfl rfl).c hF (i := 12) rfl rfl).c hF (i := 10) rfl rfl).c hF (i := 9) rfl rfl).c hF (i := 7) rfl rfl).c hF (i := 6) rfl rfl).c hF (i := 93) rfl (vi (show ((k93 : Int) + 1 : Int) = ((k93 + 1) : Int) from by omega))), (hM.sub (((((Sub.nil.c (k := 7) rfl rfl).c (k := 6) rfl rfl).c (k := 5) rfl rfl).c (k := 4) rfl rfl).c (k := 3) rfl rfl)), (show ((k93 + 1) : Int) ≤ 6 from by omega)⟩, (show 6 - (k93 + 1) < 6 - k93 from by omega)⟩
          · skip
            replace hF := hF.c hF (i := 94) (v := .bool false) rfl (bF hz4)
            refine cF hF (by kernel_rfl) (by kernel_rfl) ?_
            refine wp_exit ?_
            refine hK9 _ _ ?_
            refine wp_region_lit ?_
            refine wl (eP 170 (v0 := .int .i64 (IntKind.i64.wrap ((k51 : Int) + 1))) (v := .int .i64 ((k51 : Int) + 1)) hF (by kernel_rfl) (fun _ => by kernel_rfl) (wi (by omega)) fun a hF => ?_)
            refine sB 1 [(51, .int .i64 ((k51 : Int) + 1))] hF (by kernel_rfl) fun a hF => ?_
            refine wpList_nil ?_
            refine hK6 _ _ ⟨(k51 + 1), ⟨(((((((Fr.nil hF).c hF (i := 50) rfl rfl).c hF (i := 10) rfl rfl).c hF (i := 9) rfl rfl).c hF (i := 7) rfl rfl).c hF (i := 6) rfl rfl).c hF (i := 51) rfl (vi (show ((k51 : Int) + 1 : Int) = ((k51 + 1) : Int) from by omega))), (hM.sub ((((Sub.nil.c (k := 6) rfl rfl).c (k := 5) rfl rfl).c (k := 4) rfl rfl).c (k := 3) rfl rfl)), (show ((k51 + 1) : Int) ≤ 3 from by omega)⟩, (show 3 - (k51 + 1) < 3 - k51 from by omega)⟩
      · skip
        replace hF := hF.c hF (i := 52) (v := .bool false) rfl (bF hz2)
        refine cF hF (by kernel_rfl) (by kernel_rfl) ?_
        refine wp_exit ?_
        refine hK4 _ _ ?_
        refine wp_seq_k fun K32 hK32 => ?_
        refine wp_region_lit ?_
        refine wl (eM 171 (v := .bool true) hF hM (by kernel_rfl) (yld_call (f := 16) (args := #[]) hF (by kernel_rfl) (fun _ => by kernel_rfl) (fun w hM => works34_w w)) fun a w hF hM => ?_)
        refine sB 1 [(8, .bool true)] hF (by kernel_rfl) fun a hF => ?_
        refine wpList_nil ?_
        refine hK32 _ _ ?_
        refine wp_ret ?_
        refine hR0 _ _ ?_
        refine ret_of hF hM (.tmp rfl (.nil)) ?_
        exact ⟨rfl, hM.bel⟩

end Go.Proofs.Ytaekcgapbkmepaa
