/-
  The walk of CurveBounds.
-/
import Derived.Test.YtoighcbbaacnaaaCurveJ
namespace Go.Proofs.Ytoighcbbaacnaaa
open Go.RowKit
set_option linter.unusedVariables false
set_option linter.unusedSimpArgs false

set_option maxRecDepth 100000 in
set_option maxHeartbeats 8000000 in
theorem curveBounds_walk (b0 b1 bu ra s0 s1 n0 n1 : Int) (g s : Value) (w0 : World) (h : 0 ≤ bu ∧ bu < 4294967296 ∧ 0 ≤ ra ∧ ra < 4294967296 ∧ 0 ≤ n0 ∧ n0 < 4294967296 ∧ 0 ≤ n1 ∧ n1 < 4294967296) :
    Calls Try.prog 5 #[.agg #[.int .i64 b0, .int .i64 b1], .agg #[.int .u32 bu, .int .u32 ra, g, s], .agg #[.int .i64 s0, .int .i64 s1], .agg #[.int .u32 n0, .int .u32 n1]] w0 (Ret w0 (.bool true)) := by
  refine enterK 101 Try.func5 rfl rfl rfl ?_
  intro a hF Q0 hR0 hN0
  have hM := Mem.start w0
  refine wp_seq_k fun K1 hK1 => ?_
  refine wp_region_lit ?_
  refine wl (eN 4 1 (t := 39) (fun b => .pointer (some ⟨b, 0, none⟩)) #[.int .i64 b0, .int .i64 b1] hF hM (by kernel_rfl) (fun _ => by kernel_rfl) fun bb1 a w hF hM => ?_)
  refine wl (eN 5 2 (t := 42) (fun b => .pointer (some ⟨b, 0, none⟩)) #[.int .u32 bu, .int .u32 ra, g, s] hF hM (by kernel_rfl) (fun _ => by kernel_rfl) fun bb2 a w hF hM => ?_)
  refine wl (eN 6 3 (t := 23) (fun b => .pointer (some ⟨b, 0, none⟩)) #[.int .i64 s0, .int .i64 s1] hF hM (by kernel_rfl) (fun _ => by kernel_rfl) fun bb3 a w hF hM => ?_)
  refine wl (eN 7 4 (t := 37) (fun b => .pointer (some ⟨b, 0, none⟩)) #[.int .u32 n0, .int .u32 n1] hF hM (by kernel_rfl) (fun _ => by kernel_rfl) fun bb4 a w hF hM => ?_)
  refine sB 1 [(8, .bool false)] hF (by kernel_rfl) fun a hF => ?_
  refine wpList_nil ?_
  refine hK1 _ _ ?_
  refine wp_seq_k fun K2 hK2 => ?_
  refine wp_region_lit ?_
  refine sB 1 [(23, .pointer (some ⟨bb4, 0, none⟩))] hF (by kernel_rfl) fun a hF => ?_
  refine wl (eL 24 4 0 (v := .int .u32 n0) hF hM (by kernel_rfl) rfl rfl (by kernel_rfl) (by kernel_rfl) fun a w hF hM => ?_)
  refine sB 1 [(25, .pointer (some ⟨bb4, 1, none⟩))] hF (by kernel_rfl) fun a hF => ?_
  refine wl (eL 26 4 1 (v := .int .u32 n1) hF hM (by kernel_rfl) rfl rfl (by kernel_rfl) (by kernel_rfl) fun a w hF hM => ?_)
  refine wl (eM 27 (v := .agg #[.int .i64 (1 + n0 % 2097152), .int .i64 (n1 % 268435457)]) hF hM (by kernel_rfl) (yld_call (f := 13) (args := #[.int .u32 n0, .int .u32 n1]) hF (by kernel_rfl) (fun _ => by kernel_rfl) (fun w hM => rOf4_w n0 n1 w (by omega))) fun a w hF hM => ?_)
  refine wl (eN 9 5 (t := 23) (fun b => .pointer (some ⟨b, 0, none⟩)) #[.int .i64 0, .int .i64 0] hF hM (by kernel_rfl) (fun _ => by kernel_rfl) fun bb5 a w hF hM => ?_)
  refine wl (sStore (i := 5) (off := 0) (cs' := #[.int .i64 (1 + n0 % 2097152), .int .i64 (n1 % 268435457)]) hF hM (by kernel_rfl) rfl rfl (by kernel_rfl) (by kernel_rfl) rfl (by kernel_rfl) fun w hM => ?_)
  refine wpList_nil ?_
  refine hK2 _ _ ?_
  refine wp_seq_k fun K3 hK3 => ?_
  refine rF (by kernel_rfl) (by kernel_rfl) (fun S a w => ∃ bb6 : Nat, Fr 101 [(4, some (.pointer (some ⟨bb1, 0, none⟩))), (5, some (.pointer (some ⟨bb2, 0, none⟩))), (6, some (.pointer (some ⟨bb3, 0, none⟩))), (7, some (.pointer (some ⟨bb4, 0, none⟩))), (8, some (.bool false)), (9, some (.pointer (some ⟨bb5, 0, none⟩))), (10, (cond (S.getD 14 false) (some (.pointer (some ⟨bb6, 0, none⟩))) none)), (28, (cond (S.getD 0 false) (some (.agg #[.int .u32 bu, .int .u32 ra, g, s])) none)), (29, (cond (S.getD 1 false) (some (.agg #[.int .i64 (1 + bu % 1048576), .int .i64 (1 + ra % 2097152)])) none)), (30, (cond (S.getD 2 false) (some (.int .i64 (1 + ra % 2097152))) none)), (31, (cond (S.getD 3 false) (some (.pointer (some ⟨bb4, 1, none⟩))) none)), (32, (cond (S.getD 4 false) (some (.int .u32 n1)) none)), (33, (cond (S.getD 5 false) (some (.int .u32 (n1 % 999))) none)), (34, (cond (S.getD 6 false) (some (.int .i64 (n1 % 999))) none)), (35, (cond (S.getD 7 false) (some (.int .i64 (1 + ra % 2097152 + n1 % 999))) none)), (36, (cond (S.getD 8 false) (some (.int .i64 (min 2097152 (1 + ra % 2097152 + n1 % 999)))) none)), (37, (cond (S.getD 9 false) (some (.pointer (some ⟨bb4, 1, none⟩))) none)), (38, (cond (S.getD 10 false) (some (.int .u32 n1)) none)), (39, (cond (S.getD 11 false) (some (.int .u32 (n1 % 5000))) none)), (40, (cond (S.getD 12 false) (some (.int .i64 (n1 % 5000))) none)), (41, (cond (S.getD 13 false) (some (.agg #[.int .i64 (min 2097152 (1 + ra % 2097152 + n1 % 999)), .int .i64 (n1 % 5000)])) none))] a ∧ Mem w0.heap.size w0 [(1, some (.row bb1 39 #[.int .i64 b0, .int .i64 b1])), (2, some (.row bb2 42 #[.int .u32 bu, .int .u32 ra, g, s])), (3, some (.row bb3 23 #[.int .i64 s0, .int .i64 s1])), (4, some (.row bb4 37 #[.int .u32 n0, .int .u32 n1])), (5, some (.row bb5 23 #[.int .i64 (1 + n0 % 2097152), .int .i64 (n1 % 268435457)])), (6, (cond (S.getD 15 false) (some (.row bb6 23 #[.int .i64 (min 2097152 (1 + ra % 2097152 + n1 % 999)), .int .i64 (n1 % 5000)])) (cond (S.getD 14 false) (some (.row bb6 23 #[.int .i64 0, .int .i64 0])) none)))] w) ?_ ?_ ?_
  · exact ⟨0, ((((((((((((((((((((((Fr.nil hF).co hF (i := 41) (by kernel_rfl)).co hF (i := 40) (by kernel_rfl)).co hF (i := 39) (by kernel_rfl)).co hF (i := 38) (by kernel_rfl)).co hF (i := 37) (by kernel_rfl)).co hF (i := 36) (by kernel_rfl)).co hF (i := 35) (by kernel_rfl)).co hF (i := 34) (by kernel_rfl)).co hF (i := 33) (by kernel_rfl)).co hF (i := 32) (by kernel_rfl)).co hF (i := 31) (by kernel_rfl)).co hF (i := 30) (by kernel_rfl)).co hF (i := 29) (by kernel_rfl)).co hF (i := 28) (by kernel_rfl)).co hF (i := 10) (by kernel_rfl)).co hF (i := 9) (by kernel_rfl)).co hF (i := 8) (by kernel_rfl)).co hF (i := 7) (by kernel_rfl)).co hF (i := 6) (by kernel_rfl)).co hF (i := 5) (by kernel_rfl)).co hF (i := 4) (by kernel_rfl)), hM.drew.sub ((((((Sub.nil.co (k := 6) (by kernel_rfl)).co (k := 5) (by kernel_rfl)).co (k := 4) (by kernel_rfl)).co (k := 3) (by kernel_rfl)).co (k := 2) (by kernel_rfl)).co (k := 1) (by kernel_rfl))⟩
  · refine stC ?_ (stC ?_ (stC ?_ (stC ?_ (stC ?_ (stC ?_ (stC ?_ (stC ?_ (stC ?_ (stC ?_ (stC ?_ (stC ?_ (stC ?_ (stC ?_ (stC ?_ (stC ?_ (trivial))))))))))))))))
    · intro s0 s1 s2 s3 s4 s5 s6 s7 s8 s9 s10 s11 s12 s13 s14 s15 hc hi hp a w hS
      obtain rfl : s0 = false := hi
      obtain ⟨bb6, hF, hM⟩ := hS
      refine eL 28 2 0 (v := .agg #[.int .u32 bu, .int .u32 ra, g, s]) hF hM (by kernel_rfl) rfl rfl (by kernel_rfl) (by kernel_rfl) fun a w hF hM => ?_
      exact ⟨bb6, ((hF.repl 7 (by kernel_rfl)).cast (by kernel_rfl)), (hM.cast (by kernel_rfl))⟩
    · intro s0 s1 s2 s3 s4 s5 s6 s7 s8 s9 s10 s11 s12 s13 s14 s15 hc hi hp a w hS
      obtain rfl : s1 = false := hi
      obtain rfl : s0 = true := hp 0 (by kernel_rfl)
      obtain ⟨bb6, hF, hM⟩ := hS
      refine eM 29 (v := .agg #[.int .i64 (1 + bu % 1048576), .int .i64 (1 + ra % 2097152)]) hF hM (by kernel_rfl) (yld_call (f := 19) (args := #[.agg #[.int .u32 bu, .int .u32 ra, g, s]]) hF (by kernel_rfl) (fun _ => by kernel_rfl) (fun w hM => draftBucket_w bu ra (g) (s) w (by omega))) fun a w hF hM => ?_
      exact ⟨bb6, ((hF.repl 8 (by kernel_rfl)).cast (by kernel_rfl)), (hM.cast (by kernel_rfl))⟩
    · intro s0 s1 s2 s3 s4 s5 s6 s7 s8 s9 s10 s11 s12 s13 s14 s15 hc hi hp a w hS
      obtain rfl : s2 = false := hi
      obtain rfl : s1 = true := hp 1 (by kernel_rfl)
      obtain ⟨bb6, hF, hM⟩ := hS
      refine eP 30 (v0 := .int .i64 (1 + ra % 2097152)) (v := .int .i64 (1 + ra % 2097152)) hF (by kernel_rfl) (fun _ => by kernel_rfl) rfl fun a hF => ?_
      exact ⟨bb6, ((hF.repl 9 (by kernel_rfl)).cast (by kernel_rfl)), (hM.cast (by kernel_rfl))⟩
    · intro s0 s1 s2 s3 s4 s5 s6 s7 s8 s9 s10 s11 s12 s13 s14 s15 hc hi hp a w hS
      obtain rfl : s3 = false := hi
      obtain ⟨bb6, hF, hM⟩ := hS
      refine eP 31 (v0 := .pointer (some ⟨bb4, 1, none⟩)) (v := .pointer (some ⟨bb4, 1, none⟩)) hF (by kernel_rfl) (fun _ => by kernel_rfl) rfl fun a hF => ?_
      exact ⟨bb6, ((hF.repl 10 (by kernel_rfl)).cast (by kernel_rfl)), (hM.cast (by kernel_rfl))⟩
    · intro s0 s1 s2 s3 s4 s5 s6 s7 s8 s9 s10 s11 s12 s13 s14 s15 hc hi hp a w hS
      obtain rfl : s4 = false := hi
      obtain rfl : s3 = true := hp 3 (by kernel_rfl)
      obtain ⟨bb6, hF, hM⟩ := hS
      refine eL 32 4 1 (v := .int .u32 n1) hF hM (by kernel_rfl) rfl rfl (by kernel_rfl) (by kernel_rfl) fun a w hF hM => ?_
      exact ⟨bb6, ((hF.repl 11 (by kernel_rfl)).cast (by kernel_rfl)), (hM.cast (by kernel_rfl))⟩
    · intro s0 s1 s2 s3 s4 s5 s6 s7 s8 s9 s10 s11 s12 s13 s14 s15 hc hi hp a w hS
      obtain rfl : s5 = false := hi
      obtain rfl : s4 = true := hp 4 (by kernel_rfl)
      obtain ⟨bb6, hF, hM⟩ := hS
      refine eM 33 (v := .int .u32 (n1 % 999)) hF hM (by kernel_rfl) (yld_rem n1 999 hF rfl (by kernel_rfl) (by kernel_rfl) (by kernel_rfl) (by decide) (Int.tmod_eq_emod_of_nonneg (by omega))) fun a w hF hM => ?_
      exact ⟨bb6, ((hF.repl 12 (by kernel_rfl)).cast (by kernel_rfl)), (hM.cast (by kernel_rfl))⟩
    · intro s0 s1 s2 s3 s4 s5 s6 s7 s8 s9 s10 s11 s12 s13 s14 s15 hc hi hp a w hS
      obtain rfl : s6 = false := hi
      obtain rfl : s5 = true := hp 5 (by kernel_rfl)
      obtain ⟨bb6, hF, hM⟩ := hS
      refine eP 34 (v0 := .int .i64 (IntKind.i64.wrap (n1 % 999))) (v := .int .i64 (n1 % 999)) hF (by kernel_rfl) (fun _ => by kernel_rfl) (vi (IntWalk.i64_in _ (by omega))) fun a hF => ?_
      exact ⟨bb6, ((hF.repl 13 (by kernel_rfl)).cast (by kernel_rfl)), (hM.cast (by kernel_rfl))⟩
    · intro s0 s1 s2 s3 s4 s5 s6 s7 s8 s9 s10 s11 s12 s13 s14 s15 hc hi hp a w hS
      obtain rfl : s7 = false := hi
      obtain rfl : s6 = true := hp 6 (by kernel_rfl)
      obtain rfl : s2 = true := hp 2 (by kernel_rfl)
      obtain ⟨bb6, hF, hM⟩ := hS
      refine eP 35 (v0 := .int .i64 (IntKind.i64.wrap (1 + ra % 2097152 + n1 % 999))) (v := .int .i64 (1 + ra % 2097152 + n1 % 999)) hF (by kernel_rfl) (fun _ => by kernel_rfl) (wi (by omega)) fun a hF => ?_
      exact ⟨bb6, ((hF.repl 14 (by kernel_rfl)).cast (by kernel_rfl)), (hM.cast (by kernel_rfl))⟩
    · intro s0 s1 s2 s3 s4 s5 s6 s7 s8 s9 s10 s11 s12 s13 s14 s15 hc hi hp a w hS
      obtain rfl : s8 = false := hi
      obtain rfl : s7 = true := hp 7 (by kernel_rfl)
      obtain ⟨bb6, hF, hM⟩ := hS
      refine eP 36 (v0 := .int .i64 (if 1 + ra % 2097152 + n1 % 999 < 2097152 then 1 + ra % 2097152 + n1 % 999 else 2097152)) (v := .int .i64 (min 2097152 (1 + ra % 2097152 + n1 % 999))) hF (by kernel_rfl) (fun _ => by kernel_rfl) (vi (min_if _ _)) fun a hF => ?_
      exact ⟨bb6, ((hF.repl 15 (by kernel_rfl)).cast (by kernel_rfl)), (hM.cast (by kernel_rfl))⟩
    · intro s0 s1 s2 s3 s4 s5 s6 s7 s8 s9 s10 s11 s12 s13 s14 s15 hc hi hp a w hS
      obtain rfl : s9 = false := hi
      obtain ⟨bb6, hF, hM⟩ := hS
      refine eP 37 (v0 := .pointer (some ⟨bb4, 1, none⟩)) (v := .pointer (some ⟨bb4, 1, none⟩)) hF (by kernel_rfl) (fun _ => by kernel_rfl) rfl fun a hF => ?_
      exact ⟨bb6, ((hF.repl 16 (by kernel_rfl)).cast (by kernel_rfl)), (hM.cast (by kernel_rfl))⟩
    · intro s0 s1 s2 s3 s4 s5 s6 s7 s8 s9 s10 s11 s12 s13 s14 s15 hc hi hp a w hS
      obtain rfl : s10 = false := hi
      obtain rfl : s9 = true := hp 9 (by kernel_rfl)
      obtain ⟨bb6, hF, hM⟩ := hS
      refine eL 38 4 1 (v := .int .u32 n1) hF hM (by kernel_rfl) rfl rfl (by kernel_rfl) (by kernel_rfl) fun a w hF hM => ?_
      exact ⟨bb6, ((hF.repl 17 (by kernel_rfl)).cast (by kernel_rfl)), (hM.cast (by kernel_rfl))⟩
    · intro s0 s1 s2 s3 s4 s5 s6 s7 s8 s9 s10 s11 s12 s13 s14 s15 hc hi hp a w hS
      obtain rfl : s11 = false := hi
      obtain rfl : s10 = true := hp 10 (by kernel_rfl)
      obtain ⟨bb6, hF, hM⟩ := hS
      refine eM 39 (v := .int .u32 (n1 % 5000)) hF hM (by kernel_rfl) (yld_rem n1 5000 hF rfl (by kernel_rfl) (by kernel_rfl) (by kernel_rfl) (by decide) (Int.tmod_eq_emod_of_nonneg (by omega))) fun a w hF hM => ?_
      exact ⟨bb6, ((hF.repl 18 (by kernel_rfl)).cast (by kernel_rfl)), (hM.cast (by kernel_rfl))⟩
    · intro s0 s1 s2 s3 s4 s5 s6 s7 s8 s9 s10 s11 s12 s13 s14 s15 hc hi hp a w hS
      obtain rfl : s12 = false := hi
      obtain rfl : s11 = true := hp 11 (by kernel_rfl)
      obtain ⟨bb6, hF, hM⟩ := hS
      refine eP 40 (v0 := .int .i64 (IntKind.i64.wrap (n1 % 5000))) (v := .int .i64 (n1 % 5000)) hF (by kernel_rfl) (fun _ => by kernel_rfl) (vi (IntWalk.i64_in _ (by omega))) fun a hF => ?_
      exact ⟨bb6, ((hF.repl 19 (by kernel_rfl)).cast (by kernel_rfl)), (hM.cast (by kernel_rfl))⟩
    · intro s0 s1 s2 s3 s4 s5 s6 s7 s8 s9 s10 s11 s12 s13 s14 s15 hc hi hp a w hS
      obtain rfl : s13 = false := hi
      obtain rfl : s12 = true := hp 12 (by kernel_rfl)
      obtain rfl : s8 = true := hp 8 (by kernel_rfl)
      obtain ⟨bb6, hF, hM⟩ := hS
      refine eP 41 (v0 := .agg #[.int .i64 (min 2097152 (1 + ra % 2097152 + n1 % 999)), .int .i64 (n1 % 5000)]) (v := .agg #[.int .i64 (min 2097152 (1 + ra % 2097152 + n1 % 999)), .int .i64 (n1 % 5000)]) hF (by kernel_rfl) (fun _ => by kernel_rfl) rfl fun a hF => ?_
      exact ⟨bb6, ((hF.repl 20 (by kernel_rfl)).cast (by kernel_rfl)), (hM.cast (by kernel_rfl))⟩
    · intro s0 s1 s2 s3 s4 s5 s6 s7 s8 s9 s10 s11 s12 s13 s14 s15 hc hi hp a w hS
      obtain rfl : s14 = false := hi
      obtain rfl : s15 = false := hc.f 15 14 (by kernel_rfl) rfl
      obtain ⟨bb6, hF, hM⟩ := hS
      refine eN 10 6 (t := 23) (fun b => .pointer (some ⟨b, 0, none⟩)) #[.int .i64 0, .int .i64 0] hF hM (by kernel_rfl) (fun _ => by kernel_rfl) fun bb6 a w hF hM => ?_
      exact ⟨bb6, ((hF.repl 6 (by kernel_rfl)).cast (by kernel_rfl)), ((hM.repl 5 (by kernel_rfl)).cast (by kernel_rfl))⟩
    · intro s0 s1 s2 s3 s4 s5 s6 s7 s8 s9 s10 s11 s12 s13 s14 s15 hc hi hp a w hS
      obtain rfl : s15 = false := hi
      obtain rfl : s14 = true := hp 14 (by kernel_rfl)
      obtain rfl : s13 = true := hp 13 (by kernel_rfl)
      obtain ⟨bb6, hF, hM⟩ := hS
      refine sStore (i := 6) (off := 0) (cs' := #[.int .i64 (min 2097152 (1 + ra % 2097152 + n1 % 999)), .int .i64 (n1 % 5000)]) hF hM (by kernel_rfl) rfl rfl (by kernel_rfl) (by kernel_rfl) rfl (by kernel_rfl) fun w hM => ?_
      exact ⟨bb6, (hF.cast (by kernel_rfl)), ((hM.repl 5 (by kernel_rfl)).cast (by kernel_rfl))⟩
  · intro a w hS
    obtain ⟨bb6, hF, hM⟩ := hS
    replace hF : Fr 101 [(4, some (.pointer (some ⟨bb1, 0, none⟩))), (5, some (.pointer (some ⟨bb2, 0, none⟩))), (6, some (.pointer (some ⟨bb3, 0, none⟩))), (7, some (.pointer (some ⟨bb4, 0, none⟩))), (8, some (.bool false)), (9, some (.pointer (some ⟨bb5, 0, none⟩))), (10, some (.pointer (some ⟨bb6, 0, none⟩))), (28, some (.agg #[.int .u32 bu, .int .u32 ra, g, s])), (29, some (.agg #[.int .i64 (1 + bu % 1048576), .int .i64 (1 + ra % 2097152)])), (30, some (.int .i64 (1 + ra % 2097152))), (31, some (.pointer (some ⟨bb4, 1, none⟩))), (32, some (.int .u32 n1)), (33, some (.int .u32 (n1 % 999))), (34, some (.int .i64 (n1 % 999))), (35, some (.int .i64 (1 + ra % 2097152 + n1 % 999))), (36, some (.int .i64 (min 2097152 (1 + ra % 2097152 + n1 % 999)))), (37, some (.pointer (some ⟨bb4, 1, none⟩))), (38, some (.int .u32 n1)), (39, some (.int .u32 (n1 % 5000))), (40, some (.int .i64 (n1 % 5000))), (41, some (.agg #[.int .i64 (min 2097152 (1 + ra % 2097152 + n1 % 999)), .int .i64 (n1 % 5000)]))] a := hF.cast (by kernel_rfl)
    replace hM : Mem w0.heap.size w0 [(1, some (.row bb1 39 #[.int .i64 b0, .int .i64 b1])), (2, some (.row bb2 42 #[.int .u32 bu, .int .u32 ra, g, s])), (3, some (.row bb3 23 #[.int .i64 s0, .int .i64 s1])), (4, some (.row bb4 37 #[.int .u32 n0, .int .u32 n1])), (5, some (.row bb5 23 #[.int .i64 (1 + n0 % 2097152), .int .i64 (n1 % 268435457)])), (6, some (.row bb6 23 #[.int .i64 (min 2097152 (1 + ra % 2097152 + n1 % 999)), .int .i64 (n1 % 5000)]))] w := hM.cast (by kernel_rfl)
    refine hK3 _ _ ?_
    refine wp_seq_k fun K4 hK4 => ?_
    refine wp_seq_k fun K5 hK5 => ?_
    refine rQ hM (by kernel_rfl) (by kernel_rfl) ?_
    refine eQL 42 1 0 (v := .agg #[.int .i64 b0, .int .i64 b1]) hF (by kernel_rfl) rfl rfl (by kernel_rfl) (by kernel_rfl) fun a hF => ?_
    refine eQL 43 2 0 (v := .agg #[.int .u32 bu, .int .u32 ra, g, s]) hF (by kernel_rfl) rfl rfl (by kernel_rfl) (by kernel_rfl) fun a hF => ?_
    refine eQ2 44 (v := .agg #[.int .i64 (1 + bu % 1048576), .int .i64 (1 + ra % 2097152)]) hF (by kernel_rfl) (yld_call (f := 19) (args := #[.agg #[.int .u32 bu, .int .u32 ra, g, s]]) hF (by kernel_rfl) (fun _ => by kernel_rfl) (fun w hM => draftBucket_w bu ra (g) (s) w (by omega))) fun a hF => ?_
    refine eQ 45 (v0 := .agg #[.int .i64 b0, .int .i64 b1, .int .i64 (1 + bu % 1048576), .int .i64 (1 + ra % 2097152)]) (v := .agg #[.int .i64 b0, .int .i64 b1, .int .i64 (1 + bu % 1048576), .int .i64 (1 + ra % 2097152)]) hF (by kernel_rfl) (fun _ => by kernel_rfl) rfl fun a hF => ?_
    refine eQ 46 (v0 := .int .i64 0) (v := .int .i64 0) hF (by kernel_rfl) (fun _ => by kernel_rfl) rfl fun a hF => ?_
    refine wpQuiet_nil ?_
    intro w hM
    refine hK5 _ _ ?_
    refine wp_block ?_
    refine wp_loop_k (G := Nat) (fun gg a w => Fr 101 [(46, some (.int .i64 (gg : Int))), (6, some (.pointer (some ⟨bb3, 0, none⟩))), (9, some (.pointer (some ⟨bb5, 0, none⟩))), (10, some (.pointer (some ⟨bb6, 0, none⟩))), (45, some (.agg #[.int .i64 b0, .int .i64 b1, .int .i64 (1 + bu % 1048576), .int .i64 (1 + ra % 2097152)]))] a ∧ Mem w0.heap.size w0 [(3, some (.row bb3 23 #[.int .i64 s0, .int .i64 s1])), (5, some (.row bb5 23 #[.int .i64 (1 + n0 % 2097152), .int .i64 (n1 % 268435457)])), (6, some (.row bb6 23 #[.int .i64 (min 2097152 (1 + ra % 2097152 + n1 % 999)), .int .i64 (n1 % 5000)]))] w ∧ ((gg : Int) ≤ 2)) (fun gg => 2 - gg) (0) ?_ ?_
    · refine ⟨((((((Fr.nil hF).c hF (i := 45) rfl rfl).c hF (i := 10) rfl rfl).c hF (i := 9) rfl rfl).c hF (i := 6) rfl rfl).c hF (i := 46) rfl (vi (show (0 : Int) = (0 : Int) from by omega))), (hM.sub (((Sub.nil.c (k := 6) rfl rfl).c (k := 5) rfl rfl).c (k := 3) rfl rfl)), (show (0 : Int) ≤ 2 from by omega)⟩
    · intro gg a w hI
      intro K6 hK6
      obtain ⟨k46, rfl⟩ : ∃ x, x = gg := ⟨_, rfl⟩
      try dsimp only at hI hK6
      obtain ⟨hF, hM, hz1⟩ := hI
      refine wp_seq_k fun K7 hK7 => ?_
      refine wp_region_lit ?_
      refine sB 1 [(47, .bool (decide ((k46 : Int) < 2)))] hF (by kernel_rfl) fun a hF => ?_
      refine wpList_nil ?_
      refine hK7 _ _ ?_
      refine wp_seq_k fun K8 hK8 => ?_
      by_cases hz2 : (k46 : Int) < 2
      · skip
        replace hF := hF.c hF (i := 47) (v := .bool true) rfl (bT hz2)
        refine cT hF (by kernel_rfl) (by kernel_rfl) ?_
        refine wp_skip ?_
        refine hK8 _ _ ?_
        refine wp_seq_k fun K9 hK9 => ?_
        refine wp_block ?_
        refine wp_seq_k fun K10 hK10 => ?_
        refine wp_region_lit ?_
        obtain ⟨ys2, hl2, hm2, hy2⟩ := idx_agg (P := Try.prog) (t := 49) (e := 39) (len := 2) (m := 2) (kd := .i64) [b0, b1, 1 + bu % 1048576, 1 + ra % 2097152] ((k46 : Int)) (by kernel_rfl) (by kernel_rfl) (by omega) rfl
        obtain ⟨y2_0, y2_1, rfl⟩ := len2 hl2
        refine wl (eM 48 (v := .agg #[.int .i64 y2_0, .int .i64 y2_1]) hF hM (by kernel_rfl) (yld_index (X := .agg #[.int .i64 b0, .int .i64 b1, .int .i64 (1 + bu % 1048576), .int .i64 (1 + ra % 2097152)]) (I := .int .i64 ((k46 : Int))) hF rfl (by kernel_rfl) (by kernel_rfl) (by kernel_rfl) (fun w => hy2 w)) fun a w hF hM => ?_)
        refine wl (eN 12 7 (t := 39) (fun b => .pointer (some ⟨b, 0, none⟩)) #[.int .i64 0, .int .i64 0] hF hM (by kernel_rfl) (fun _ => by kernel_rfl) fun bb7 a w hF hM => ?_)
        refine wl (sStore (i := 7) (off := 0) (cs' := #[.int .i64 y2_0, .int .i64 y2_1]) hF hM (by kernel_rfl) rfl rfl (by kernel_rfl) (by kernel_rfl) rfl (by kernel_rfl) fun w hM => ?_)
        refine wpList_nil ?_
        refine hK10 _ _ ?_
        refine wp_seq_k fun K11 hK11 => ?_
        refine wp_region_lit ?_
        refine wl (eL 49 3 0 (v := .agg #[.int .i64 s0, .int .i64 s1]) hF hM (by kernel_rfl) rfl rfl (by kernel_rfl) (by kernel_rfl) fun a w hF hM => ?_)
        refine wl (eL 50 5 0 (v := .agg #[.int .i64 (1 + n0 % 2097152), .int .i64 (n1 % 268435457)]) hF hM (by kernel_rfl) rfl rfl (by kernel_rfl) (by kernel_rfl) fun a w hF hM => ?_)
        refine wl (eL 51 6 0 (v := .agg #[.int .i64 (min 2097152 (1 + ra % 2097152 + n1 % 999)), .int .i64 (n1 % 5000)]) hF hM (by kernel_rfl) rfl rfl (by kernel_rfl) (by kernel_rfl) fun a w hF hM => ?_)
        refine sB 2 [(52, .agg #[.int .i64 s0, .int .i64 s1, .int .i64 (1 + n0 % 2097152), .int .i64 (n1 % 268435457), .int .i64 (min 2097152 (1 + ra % 2097152 + n1 % 999)), .int .i64 (n1 % 5000)]), (53, .int .i64 0)] hF (by kernel_rfl) fun a hF => ?_
        refine wpList_nil ?_
        refine hK11 _ _ ?_
        refine wp_block ?_
        refine wp_loop_k (G := Nat) (fun gg a w => Fr 101 [(53, some (.int .i64 (gg : Int))), (6, some (.pointer (some ⟨bb3, 0, none⟩))), (9, some (.pointer (some ⟨bb5, 0, none⟩))), (10, some (.pointer (some ⟨bb6, 0, none⟩))), (12, some (.pointer (some ⟨bb7, 0, none⟩))), (45, some (.agg #[.int .i64 b0, .int .i64 b1, .int .i64 (1 + bu % 1048576), .int .i64 (1 + ra % 2097152)])), (46, some (.int .i64 (k46 : Int))), (52, some (.agg #[.int .i64 s0, .int .i64 s1, .int .i64 (1 + n0 % 2097152), .int .i64 (n1 % 268435457), .int .i64 (min 2097152 (1 + ra % 2097152 + n1 % 999)), .int .i64 (n1 % 5000)]))] a ∧ Mem w0.heap.size w0 [(3, some (.row bb3 23 #[.int .i64 s0, .int .i64 s1])), (5, some (.row bb5 23 #[.int .i64 (1 + n0 % 2097152), .int .i64 (n1 % 268435457)])), (6, some (.row bb6 23 #[.int .i64 (min 2097152 (1 + ra % 2097152 + n1 % 999)), .int .i64 (n1 % 5000)])), (7, some (.row bb7 39 #[.int .i64 y2_0, .int .i64 y2_1]))] w ∧ ((gg : Int) ≤ 3)) (fun gg => 3 - gg) (0) ?_ ?_
        · refine ⟨(((((((((Fr.nil hF).c hF (i := 52) rfl rfl).c hF (i := 46) rfl rfl).c hF (i := 45) rfl rfl).c hF (i := 12) rfl rfl).c hF (i := 10) rfl rfl).c hF (i := 9) rfl rfl).c hF (i := 6) rfl rfl).c hF (i := 53) rfl (vi (show (0 : Int) = (0 : Int) from by omega))), (hM.sub ((((Sub.nil.c (k := 7) rfl rfl).c (k := 6) rfl rfl).c (k := 5) rfl rfl).c (k := 3) rfl rfl)), (show (0 : Int) ≤ 3 from by omega)⟩
        · intro gg a w hI
          intro K12 hK12
          obtain ⟨k53, rfl⟩ : ∃ x, x = gg := ⟨_, rfl⟩
          try dsimp only at hI hK12
          obtain ⟨hF, hM, hz3⟩ := hI
          refine wp_seq_k fun K13 hK13 => ?_
          refine wp_region_lit ?_
          refine sB 1 [(54, .bool (decide ((k53 : Int) < 3)))] hF (by kernel_rfl) fun a hF => ?_
          refine wpList_nil ?_
          refine hK13 _ _ ?_
          refine wp_seq_k fun K14 hK14 => ?_
          by_cases hz4 : (k53 : Int) < 3
          · skip
            replace hF := hF.c hF (i := 54) (v := .bool true) rfl (bT hz4)
            refine cT hF (by kernel_rfl) (by kernel_rfl) ?_
            refine wp_skip ?_
            refine hK14 _ _ ?_
            refine wp_seq_k fun K15 hK15 => ?_
            refine wp_block ?_
            refine wp_seq_k fun K16 hK16 => ?_
            refine wp_region_lit ?_
            obtain ⟨ys4, hl4, hm4, hy4⟩ := idx_agg (P := Try.prog) (t := 45) (e := 23) (len := 3) (m := 2) (kd := .i64) [s0, s1, 1 + n0 % 2097152, n1 % 268435457, min 2097152 (1 + ra % 2097152 + n1 % 999), n1 % 5000] ((k53 : Int)) (by kernel_rfl) (by kernel_rfl) (by omega) rfl
            obtain ⟨y4_0, y4_1, rfl⟩ := len2 hl4
            refine wl (eM 55 (v := .agg #[.int .i64 y4_0, .int .i64 y4_1]) hF hM (by kernel_rfl) (yld_index (X := .agg #[.int .i64 s0, .int .i64 s1, .int .i64 (1 + n0 % 2097152), .int .i64 (n1 % 268435457), .int .i64 (min 2097152 (1 + ra % 2097152 + n1 % 999)), .int .i64 (n1 % 5000)]) (I := .int .i64 ((k53 : Int))) hF rfl (by kernel_rfl) (by kernel_rfl) (by kernel_rfl) (fun w => hy4 w)) fun a w hF hM => ?_)
            refine wl (eN 14 8 (t := 23) (fun b => .pointer (some ⟨b, 0, none⟩)) #[.int .i64 0, .int .i64 0] hF hM (by kernel_rfl) (fun _ => by kernel_rfl) fun bb8 a w hF hM => ?_)
            refine wl (sStore (i := 8) (off := 0) (cs' := #[.int .i64 y4_0, .int .i64 y4_1]) hF hM (by kernel_rfl) rfl rfl (by kernel_rfl) (by kernel_rfl) rfl (by kernel_rfl) fun w hM => ?_)
            refine wpList_nil ?_
            refine hK16 _ _ ?_
            refine wp_seq_k fun K17 hK17 => ?_
            refine wp_region_lit ?_
            refine wl (eL 57 7 0 (v := .agg #[.int .i64 y2_0, .int .i64 y2_1]) hF hM (by kernel_rfl) rfl rfl (by kernel_rfl) (by kernel_rfl) fun a w hF hM => ?_)
            refine wl (eL 58 8 0 (v := .agg #[.int .i64 y4_0, .int .i64 y4_1]) hF hM (by kernel_rfl) rfl rfl (by kernel_rfl) (by kernel_rfl) fun a w hF hM => ?_)
            refine wl (eM 59 (v := .tuple #[.int .i64 (blV y2_0 y2_1 y4_0 y4_1), .int .i64 (csE y2_0 y2_1 y4_0 y4_1)]) hF hM (by kernel_rfl) (yld_call (f := 22) (args := #[.agg #[.int .i64 y2_0, .int .i64 y2_1], .agg #[.int .i64 y4_0, .int .i64 y4_1]]) hF (by kernel_rfl) (fun _ => by kernel_rfl) (fun w hM => backlog_w y2_0 y2_1 y4_0 y4_1 w)) fun a w hF hM => ?_)
            refine sB 5 [(56, .tuple #[.int .i64 (blV y2_0 y2_1 y4_0 y4_1), .int .i64 (csE y2_0 y2_1 y4_0 y4_1)]), (60, .int .i64 (blV y2_0 y2_1 y4_0 y4_1)), (61, .int .i64 (csE y2_0 y2_1 y4_0 y4_1)), (15, .int .i64 (blV y2_0 y2_1 y4_0 y4_1)), (16, .int .i64 (csE y2_0 y2_1 y4_0 y4_1))] hF (by kernel_rfl) fun a hF => ?_
            refine wpList_nil ?_
            refine hK17 _ _ ?_
            refine wp_seq_k fun K18 hK18 => ?_
            refine wp_region_lit ?_
            refine wl (eL 63 7 0 (v := .agg #[.int .i64 y2_0, .int .i64 y2_1]) hF hM (by kernel_rfl) rfl rfl (by kernel_rfl) (by kernel_rfl) fun a w hF hM => ?_)
            refine wl (eL 64 8 0 (v := .agg #[.int .i64 y4_0, .int .i64 y4_1]) hF hM (by kernel_rfl) rfl rfl (by kernel_rfl) (by kernel_rfl) fun a w hF hM => ?_)
            refine wl (eM 65 (v := .tuple #[.int .i64 (blV y2_0 y2_1 y4_0 y4_1), .int .i64 (csE y2_0 y2_1 y4_0 y4_1)]) hF hM (by kernel_rfl) (yld_call (f := 23) (args := #[.agg #[.int .i64 y2_0, .int .i64 y2_1], .agg #[.int .i64 y4_0, .int .i64 y4_1]]) hF (by kernel_rfl) (fun _ => by kernel_rfl) (fun w hM => rBacklog_w y2_0 y2_1 y4_0 y4_1 w)) fun a w hF hM => ?_)
            refine sB 5 [(62, .tuple #[.int .i64 (blV y2_0 y2_1 y4_0 y4_1), .int .i64 (csE y2_0 y2_1 y4_0 y4_1)]), (66, .int .i64 (blV y2_0 y2_1 y4_0 y4_1)), (67, .int .i64 (csE y2_0 y2_1 y4_0 y4_1)), (17, .int .i64 (blV y2_0 y2_1 y4_0 y4_1)), (18, .int .i64 (csE y2_0 y2_1 y4_0 y4_1))] hF (by kernel_rfl) fun a hF => ?_
            refine wpList_nil ?_
            refine hK18 _ _ ?_
            refine wp_seq_k fun K19 hK19 => ?_
            refine wp_region_lit ?_
            refine wl (eL 69 7 0 (v := .agg #[.int .i64 y2_0, .int .i64 y2_1]) hF hM (by kernel_rfl) rfl rfl (by kernel_rfl) (by kernel_rfl) fun a w hF hM => ?_)
            refine wl (eL 70 8 0 (v := .agg #[.int .i64 y4_0, .int .i64 y4_1]) hF hM (by kernel_rfl) rfl rfl (by kernel_rfl) (by kernel_rfl) fun a w hF hM => ?_)
            refine wl (eM 71 (v := .tuple #[.agg #[.int .i64 (ouB y2_0 y2_1 y4_0 y4_1), .int .i64 (ouR y2_0 y2_1 y4_0 y4_1)], .int .i64 (ouE y2_0 y2_1 y4_0 y4_1)]) hF hM (by kernel_rfl) (yld_call (f := 24) (args := #[.agg #[.int .i64 y2_0, .int .i64 y2_1], .agg #[.int .i64 y4_0, .int .i64 y4_1]]) hF (by kernel_rfl) (fun _ => by kernel_rfl) (fun w hM => output_w y2_0 y2_1 y4_0 y4_1 w)) fun a w hF hM => ?_)
            refine sB 3 [(68, .tuple #[.agg #[.int .i64 (ouB y2_0 y2_1 y4_0 y4_1), .int .i64 (ouR y2_0 y2_1 y4_0 y4_1)], .int .i64 (ouE y2_0 y2_1 y4_0 y4_1)]), (72, .agg #[.int .i64 (ouB y2_0 y2_1 y4_0 y4_1), .int .i64 (ouR y2_0 y2_1 y4_0 y4_1)]), (73, .int .i64 (ouE y2_0 y2_1 y4_0 y4_1))] hF (by kernel_rfl) fun a hF => ?_
            refine wl (eN 19 9 (t := 39) (fun b => .pointer (some ⟨b, 0, none⟩)) #[.int .i64 0, .int .i64 0] hF hM (by kernel_rfl) (fun _ => by kernel_rfl) fun bb9 a w hF hM => ?_)
            refine wl (sStore (i := 9) (off := 0) (cs' := #[.int .i64 (ouB y2_0 y2_1 y4_0 y4_1), .int .i64 (ouR y2_0 y2_1 y4_0 y4_1)]) hF hM (by kernel_rfl) rfl rfl (by kernel_rfl) (by kernel_rfl) rfl (by kernel_rfl) fun w hM => ?_)
            refine sB 1 [(20, .int .i64 (ouE y2_0 y2_1 y4_0 y4_1))] hF (by kernel_rfl) fun a hF => ?_
            refine wpList_nil ?_
            refine hK19 _ _ ?_
            refine wp_seq_k fun K20 hK20 => ?_
            refine wp_region_lit ?_
            refine wl (eL 75 7 0 (v := .agg #[.int .i64 y2_0, .int .i64 y2_1]) hF hM (by kernel_rfl) rfl rfl (by kernel_rfl) (by kernel_rfl) fun a w hF hM => ?_)
            refine wl (eL 76 8 0 (v := .agg #[.int .i64 y4_0, .int .i64 y4_1]) hF hM (by kernel_rfl) rfl rfl (by kernel_rfl) (by kernel_rfl) fun a w hF hM => ?_)
            refine wl (eM 77 (v := .tuple #[.agg #[.int .i64 (ouB y2_0 y2_1 y4_0 y4_1), .int .i64 (ouR y2_0 y2_1 y4_0 y4_1)], .int .i64 (ouE y2_0 y2_1 y4_0 y4_1)]) hF hM (by kernel_rfl) (yld_call (f := 25) (args := #[.agg #[.int .i64 y2_0, .int .i64 y2_1], .agg #[.int .i64 y4_0, .int .i64 y4_1]]) hF (by kernel_rfl) (fun _ => by kernel_rfl) (fun w hM => rOutput_w y2_0 y2_1 y4_0 y4_1 w)) fun a w hF hM => ?_)
            refine sB 3 [(74, .tuple #[.agg #[.int .i64 (ouB y2_0 y2_1 y4_0 y4_1), .int .i64 (ouR y2_0 y2_1 y4_0 y4_1)], .int .i64 (ouE y2_0 y2_1 y4_0 y4_1)]), (78, .agg #[.int .i64 (ouB y2_0 y2_1 y4_0 y4_1), .int .i64 (ouR y2_0 y2_1 y4_0 y4_1)]), (79, .int .i64 (ouE y2_0 y2_1 y4_0 y4_1))] hF (by kernel_rfl) fun a hF => ?_
            refine wl (eN 21 10 (t := 39) (fun b => .pointer (some ⟨b, 0, none⟩)) #[.int .i64 0, .int .i64 0] hF hM (by kernel_rfl) (fun _ => by kernel_rfl) fun bb10 a w hF hM => ?_)
            refine wl (sStore (i := 10) (off := 0) (cs' := #[.int .i64 (ouB y2_0 y2_1 y4_0 y4_1), .int .i64 (ouR y2_0 y2_1 y4_0 y4_1)]) hF hM (by kernel_rfl) rfl rfl (by kernel_rfl) (by kernel_rfl) rfl (by kernel_rfl) fun w hM => ?_)
            refine sB 1 [(22, .int .i64 (ouE y2_0 y2_1 y4_0 y4_1))] hF (by kernel_rfl) fun a hF => ?_
            refine wpList_nil ?_
            refine hK20 _ _ ?_
            refine wp_seq_k fun K21 hK21 => ?_
            refine wp_region_lit ?_
            refine sB 2 [(80, .int .i64 (blV y2_0 y2_1 y4_0 y4_1)), (81, .int .i64 (blV y2_0 y2_1 y4_0 y4_1))] hF (by kernel_rfl) fun a hF => ?_
            refine wl (eP 82 (v0 := .bool (!decide (blV y2_0 y2_1 y4_0 y4_1 = blV y2_0 y2_1 y4_0 y4_1))) (v := .bool false) hF (by kernel_rfl) (fun _ => by kernel_rfl) (nT (by omega)) fun a hF => ?_)
            refine sB 3 [(83, .bool false), (84, .int .i64 (csE y2_0 y2_1 y4_0 y4_1)), (85, .int .i64 (csE y2_0 y2_1 y4_0 y4_1))] hF (by kernel_rfl) fun a hF => ?_
            refine wl (eP 86 (v0 := .bool (!decide (csE y2_0 y2_1 y4_0 y4_1 = csE y2_0 y2_1 y4_0 y4_1))) (v := .bool false) hF (by kernel_rfl) (fun _ => by kernel_rfl) (nT (by omega)) fun a hF => ?_)
            refine sB 2 [(87, .bool false), (88, .bool false)] hF (by kernel_rfl) fun a hF => ?_
            refine wl (eL 89 9 0 (v := .agg #[.int .i64 (ouB y2_0 y2_1 y4_0 y4_1), .int .i64 (ouR y2_0 y2_1 y4_0 y4_1)]) hF hM (by kernel_rfl) rfl rfl (by kernel_rfl) (by kernel_rfl) fun a w hF hM => ?_)
            refine wl (eL 90 10 0 (v := .agg #[.int .i64 (ouB y2_0 y2_1 y4_0 y4_1), .int .i64 (ouR y2_0 y2_1 y4_0 y4_1)]) hF hM (by kernel_rfl) rfl rfl (by kernel_rfl) (by kernel_rfl) fun a w hF hM => ?_)
            refine wl (eM 91 (v := .bool false) hF hM (by kernel_rfl) ((yld_neq (C := Mem _ _ _) [ouB y2_0 y2_1 y4_0 y4_1, ouR y2_0 y2_1 y4_0 y4_1] [ouB y2_0 y2_1 y4_0 y4_1, ouR y2_0 y2_1 y4_0 y4_1] hF rfl (by kernel_rfl) (by kernel_rfl) (by kernel_rfl) rfl (by kernel_rfl) (by kernel_rfl) (by kernel_rfl) rfl rfl).to (nT rfl)) fun a w hF hM => ?_)
            refine sB 4 [(92, .bool false), (93, .bool false), (94, .int .i64 (ouE y2_0 y2_1 y4_0 y4_1)), (95, .int .i64 (ouE y2_0 y2_1 y4_0 y4_1))] hF (by kernel_rfl) fun a hF => ?_
            refine wl (eP 96 (v0 := .bool (!decide (ouE y2_0 y2_1 y4_0 y4_1 = ouE y2_0 y2_1 y4_0 y4_1))) (v := .bool false) hF (by kernel_rfl) (fun _ => by kernel_rfl) (nT (by omega)) fun a hF => ?_)
            refine sB 1 [(97, .bool false)] hF (by kernel_rfl) fun a hF => ?_
            refine wpList_nil ?_
            refine hK21 _ _ ?_
            refine cF hF (by kernel_rfl) (by kernel_rfl) ?_
            refine wp_skip ?_
            refine hK15 _ _ ?_
            refine wp_region_lit ?_
            refine wl (eP 98 (v0 := .int .i64 (IntKind.i64.wrap ((k53 : Int) + 1))) (v := .int .i64 ((k53 : Int) + 1)) hF (by kernel_rfl) (fun _ => by kernel_rfl) (wi (by omega)) fun a hF => ?_)
            refine sB 1 [(53, .int .i64 ((k53 : Int) + 1))] hF (by kernel_rfl) fun a hF => ?_
            refine wpList_nil ?_
            refine hK12 _ _ ⟨(k53 + 1), ⟨(((((((((Fr.nil hF).c hF (i := 52) rfl rfl).c hF (i := 46) rfl rfl).c hF (i := 45) rfl rfl).c hF (i := 12) rfl rfl).c hF (i := 10) rfl rfl).c hF (i := 9) rfl rfl).c hF (i := 6) rfl rfl).c hF (i := 53) rfl (vi (show ((k53 : Int) + 1 : Int) = ((k53 + 1) : Int) from by omega))), (hM.sub ((((Sub.nil.c (k := 7) rfl rfl).c (k := 6) rfl rfl).c (k := 5) rfl rfl).c (k := 3) rfl rfl)), (show ((k53 + 1) : Int) ≤ 3 from by omega)⟩, (show 3 - (k53 + 1) < 3 - k53 from by omega)⟩
          · skip
            replace hF := hF.c hF (i := 54) (v := .bool false) rfl (bF hz4)
            refine cF hF (by kernel_rfl) (by kernel_rfl) ?_
            refine wp_exit ?_
            refine hK9 _ _ ?_
            refine wp_region_lit ?_
            refine wl (eP 99 (v0 := .int .i64 (IntKind.i64.wrap ((k46 : Int) + 1))) (v := .int .i64 ((k46 : Int) + 1)) hF (by kernel_rfl) (fun _ => by kernel_rfl) (wi (by omega)) fun a hF => ?_)
            refine sB 1 [(46, .int .i64 ((k46 : Int) + 1))] hF (by kernel_rfl) fun a hF => ?_
            refine wpList_nil ?_
            refine hK6 _ _ ⟨(k46 + 1), ⟨((((((Fr.nil hF).c hF (i := 45) rfl rfl).c hF (i := 10) rfl rfl).c hF (i := 9) rfl rfl).c hF (i := 6) rfl rfl).c hF (i := 46) rfl (vi (show ((k46 : Int) + 1 : Int) = ((k46 + 1) : Int) from by omega))), (hM.sub (((Sub.nil.c (k := 6) rfl rfl).c (k := 5) rfl rfl).c (k := 3) rfl rfl)), (show ((k46 + 1) : Int) ≤ 2 from by omega)⟩, (show 2 - (k46 + 1) < 2 - k46 from by omega)⟩
      · skip
        replace hF := hF.c hF (i := 47) (v := .bool false) rfl (bF hz2)
        refine cF hF (by kernel_rfl) (by kernel_rfl) ?_
        refine wp_exit ?_
        refine hK4 _ _ ?_
        refine wp_seq_k fun K22 hK22 => ?_
        refine wp_region_lit ?_
        refine wl (eM 100 (v := .bool true) hF hM (by kernel_rfl) (yld_call (f := 18) (args := #[]) hF (by kernel_rfl) (fun _ => by kernel_rfl) (fun w hM => works4_w w)) fun a w hF hM => ?_)
        refine sB 1 [(8, .bool true)] hF (by kernel_rfl) fun a hF => ?_
        refine wpList_nil ?_
        refine hK22 _ _ ?_
        refine wp_ret ?_
        refine hR0 _ _ ?_
        refine ret_of hF hM (.tmp rfl (.nil)) ?_
        exact ⟨rfl, hM.bel⟩

end Go.Proofs.Ytoighcbbaacnaaa
