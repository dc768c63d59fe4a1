/-
  The walk of CurveChecks.
-/
import Derived.Test.YtoighcbbaacnaaaCurveH
namespace Go.Proofs.Ytoighcbbaacnaaa
open Go.RowKit
set_option linter.unusedVariables false
set_option linter.unusedSimpArgs false

set_option maxRecDepth 100000 in
set_option maxHeartbeats 8000000 in
theorem curveChecks_walk (ar au br bu n0 n1 n2 n3 : Int) (w0 : World) (h : 0 ≤ n0 ∧ n0 < 4294967296 ∧ 0 ≤ n1 ∧ n1 < 4294967296 ∧ 0 ≤ n2 ∧ n2 < 4294967296 ∧ 0 ≤ n3 ∧ n3 < 4294967296) :
    Calls Try.prog 3 #[.agg #[.int .i64 ar, .int .i64 au], .agg #[.int .i64 br, .int .i64 bu], .agg #[.int .u32 n0, .int .u32 n1, .int .u32 n2, .int .u32 n3]] w0 (Ret w0 (.bool true)) := by
  refine enterK 90 Try.func3 rfl rfl rfl ?_
  intro a hF Q0 hR0 hN0
  have hM := Mem.start w0
  refine wp_seq_k fun K1 hK1 => ?_
  refine wp_region_lit ?_
  refine wl (eN 3 1 (t := 23) (fun b => .pointer (some ⟨b, 0, none⟩)) #[.int .i64 ar, .int .i64 au] hF hM (by kernel_rfl) (fun _ => by kernel_rfl) fun bb1 a w hF hM => ?_)
  refine wl (eN 4 2 (t := 23) (fun b => .pointer (some ⟨b, 0, none⟩)) #[.int .i64 br, .int .i64 bu] hF hM (by kernel_rfl) (fun _ => by kernel_rfl) fun bb2 a w hF hM => ?_)
  refine wl (eN 5 3 (t := 25) (fun b => .pointer (some ⟨b, 0, none⟩)) #[.int .u32 n0, .int .u32 n1, .int .u32 n2, .int .u32 n3] hF hM (by kernel_rfl) (fun _ => by kernel_rfl) fun bb3 a w hF hM => ?_)
  refine sB 1 [(6, .bool false)] hF (by kernel_rfl) fun a hF => ?_
  refine wpList_nil ?_
  refine hK1 _ _ ?_
  refine wp_seq_k fun K2 hK2 => ?_
  refine rF (by kernel_rfl) (by kernel_rfl) (fun S a w => ∃ bb4 : Nat, ∃ bb5 : Nat, Fr 90 [(3, some (.pointer (some ⟨bb1, 0, none⟩))), (4, some (.pointer (some ⟨bb2, 0, none⟩))), (5, some (.pointer (some ⟨bb3, 0, none⟩))), (6, some (.bool false)), (7, (cond (S.getD 10 false) (some (.pointer (some ⟨bb4, 0, none⟩))) none)), (8, (cond (S.getD 11 false) (some (.pointer (some ⟨bb5, 0, none⟩))) none)), (15, (cond (S.getD 0 false) (some (.pointer (some ⟨bb3, 0, none⟩))) none)), (16, (cond (S.getD 1 false) (some (.int .u32 n0)) none)), (17, (cond (S.getD 2 false) (some (.pointer (some ⟨bb3, 1, none⟩))) none)), (18, (cond (S.getD 3 false) (some (.int .u32 n1)) none)), (19, (cond (S.getD 4 false) (some (.agg #[.int .i64 (1 + n0 % 2097152), .int .i64 (n1 % 268435457)])) none)), (20, (cond (S.getD 5 false) (some (.pointer (some ⟨bb3, 2, none⟩))) none)), (21, (cond (S.getD 6 false) (some (.int .u32 n2)) none)), (22, (cond (S.getD 7 false) (some (.pointer (some ⟨bb3, 3, none⟩))) none)), (23, (cond (S.getD 8 false) (some (.int .u32 n3)) none)), (24, (cond (S.getD 9 false) (some (.agg #[.int .i64 (1 + n2 % 2097152), .int .i64 (n3 % 268435457)])) none))] a ∧ Mem w0.heap.size w0 [(1, some (.row bb1 23 #[.int .i64 ar, .int .i64 au])), (2, some (.row bb2 23 #[.int .i64 br, .int .i64 bu])), (3, some (.row bb3 25 #[.int .u32 n0, .int .u32 n1, .int .u32 n2, .int .u32 n3])), (4, (cond (S.getD 12 false) (some (.row bb4 23 #[.int .i64 (1 + n0 % 2097152), .int .i64 (n1 % 268435457)])) (cond (S.getD 10 false) (some (.row bb4 23 #[.int .i64 0, .int .i64 0])) none))), (5, (cond (S.getD 13 false) (some (.row bb5 23 #[.int .i64 (1 + n2 % 2097152), .int .i64 (n3 % 268435457)])) (cond (S.getD 11 false) (some (.row bb5 23 #[.int .i64 0, .int .i64 0])) none)))] w) ?_ ?_ ?_
  · exact ⟨0, 0, (((((((((((((((((Fr.nil hF).co hF (i := 24) (by kernel_rfl)).co hF (i := 23) (by kernel_rfl)).co hF (i := 22) (by kernel_rfl)).co hF (i := 21) (by kernel_rfl)).co hF (i := 20) (by kernel_rfl)).co hF (i := 19) (by kernel_rfl)).co hF (i := 18) (by kernel_rfl)).co hF (i := 17) (by kernel_rfl)).co hF (i := 16) (by kernel_rfl)).co hF (i := 15) (by kernel_rfl)).co hF (i := 8) (by kernel_rfl)).co hF (i := 7) (by kernel_rfl)).co hF (i := 6) (by kernel_rfl)).co hF (i := 5) (by kernel_rfl)).co hF (i := 4) (by kernel_rfl)).co hF (i := 3) (by kernel_rfl)), hM.drew.sub (((((Sub.nil.co (k := 5) (by kernel_rfl)).co (k := 4) (by kernel_rfl)).co (k := 3) (by kernel_rfl)).co (k := 2) (by kernel_rfl)).co (k := 1) (by kernel_rfl))⟩
  · refine stC ?_ (stC ?_ (stC ?_ (stC ?_ (stC ?_ (stC ?_ (stC ?_ (stC ?_ (stC ?_ (stC ?_ (stC ?_ (stC ?_ (stC ?_ (stC ?_ (trivial))))))))))))))
    · intro s0 s1 s2 s3 s4 s5 s6 s7 s8 s9 s10 s11 s12 s13 hc hi hp a w hS
      obtain rfl : s0 = false := hi
      obtain ⟨bb4, bb5, hF, hM⟩ := hS
      refine eP 15 (v0 := .pointer (some ⟨bb3, 0, none⟩)) (v := .pointer (some ⟨bb3, 0, none⟩)) hF (by kernel_rfl) (fun _ => by kernel_rfl) rfl fun a hF => ?_
      exact ⟨bb4, bb5, ((hF.repl 6 (by kernel_rfl)).cast (by kernel_rfl)), (hM.cast (by kernel_rfl))⟩
    · intro s0 s1 s2 s3 s4 s5 s6 s7 s8 s9 s10 s11 s12 s13 hc hi hp a w hS
      obtain rfl : s1 = false := hi
      obtain rfl : s0 = true := hp 0 (by kernel_rfl)
      obtain ⟨bb4, bb5, hF, hM⟩ := hS
      refine eL 16 3 0 (v := .int .u32 n0) hF hM (by kernel_rfl) rfl rfl (by kernel_rfl) (by kernel_rfl) fun a w hF hM => ?_
      exact ⟨bb4, bb5, ((hF.repl 7 (by kernel_rfl)).cast (by kernel_rfl)), (hM.cast (by kernel_rfl))⟩
    · intro s0 s1 s2 s3 s4 s5 s6 s7 s8 s9 s10 s11 s12 s13 hc hi hp a w hS
      obtain rfl : s2 = false := hi
      obtain ⟨bb4, bb5, hF, hM⟩ := hS
      refine eP 17 (v0 := .pointer (some ⟨bb3, 1, none⟩)) (v := .pointer (some ⟨bb3, 1, none⟩)) hF (by kernel_rfl) (fun _ => by kernel_rfl) rfl fun a hF => ?_
      exact ⟨bb4, bb5, ((hF.repl 8 (by kernel_rfl)).cast (by kernel_rfl)), (hM.cast (by kernel_rfl))⟩
    · intro s0 s1 s2 s3 s4 s5 s6 s7 s8 s9 s10 s11 s12 s13 hc hi hp a w hS
      obtain rfl : s3 = false := hi
      obtain rfl : s2 = true := hp 2 (by kernel_rfl)
      obtain ⟨bb4, bb5, hF, hM⟩ := hS
      refine eL 18 3 1 (v := .int .u32 n1) hF hM (by kernel_rfl) rfl rfl (by kernel_rfl) (by kernel_rfl) fun a w hF hM => ?_
      exact ⟨bb4, bb5, ((hF.repl 9 (by kernel_rfl)).cast (by kernel_rfl)), (hM.cast (by kernel_rfl))⟩
    · intro s0 s1 s2 s3 s4 s5 s6 s7 s8 s9 s10 s11 s12 s13 hc hi hp a w hS
      obtain rfl : s4 = false := hi
      obtain rfl : s3 = true := hp 3 (by kernel_rfl)
      obtain rfl : s1 = true := hp 1 (by kernel_rfl)
      obtain ⟨bb4, bb5, hF, hM⟩ := hS
      refine eM 19 (v := .agg #[.int .i64 (1 + n0 % 2097152), .int .i64 (n1 % 268435457)]) hF hM (by kernel_rfl) (yld_call (f := 13) (args := #[.int .u32 n0, .int .u32 n1]) hF (by kernel_rfl) (fun _ => by kernel_rfl) (fun w hM => rOf4_w n0 n1 w (by omega))) fun a w hF hM => ?_
      exact ⟨bb4, bb5, ((hF.repl 10 (by kernel_rfl)).cast (by kernel_rfl)), (hM.cast (by kernel_rfl))⟩
    · intro s0 s1 s2 s3 s4 s5 s6 s7 s8 s9 s10 s11 s12 s13 hc hi hp a w hS
      obtain rfl : s5 = false := hi
      obtain ⟨bb4, bb5, hF, hM⟩ := hS
      refine eP 20 (v0 := .pointer (some ⟨bb3, 2, none⟩)) (v := .pointer (some ⟨bb3, 2, none⟩)) hF (by kernel_rfl) (fun _ => by kernel_rfl) rfl fun a hF => ?_
      exact ⟨bb4, bb5, ((hF.repl 11 (by kernel_rfl)).cast (by kernel_rfl)), (hM.cast (by kernel_rfl))⟩
    · intro s0 s1 s2 s3 s4 s5 s6 s7 s8 s9 s10 s11 s12 s13 hc hi hp a w hS
      obtain rfl : s6 = false := hi
      obtain rfl : s5 = true := hp 5 (by kernel_rfl)
      obtain ⟨bb4, bb5, hF, hM⟩ := hS
      refine eL 21 3 2 (v := .int .u32 n2) hF hM (by kernel_rfl) rfl rfl (by kernel_rfl) (by kernel_rfl) fun a w hF hM => ?_
      exact ⟨bb4, bb5, ((hF.repl 12 (by kernel_rfl)).cast (by kernel_rfl)), (hM.cast (by kernel_rfl))⟩
    · intro s0 s1 s2 s3 s4 s5 s6 s7 s8 s9 s10 s11 s12 s13 hc hi hp a w hS
      obtain rfl : s7 = false := hi
      obtain ⟨bb4, bb5, hF, hM⟩ := hS
      refine eP 22 (v0 := .pointer (some ⟨bb3, 3, none⟩)) (v := .pointer (some ⟨bb3, 3, none⟩)) hF (by kernel_rfl) (fun _ => by kernel_rfl) rfl fun a hF => ?_
      exact ⟨bb4, bb5, ((hF.repl 13 (by kernel_rfl)).cast (by kernel_rfl)), (hM.cast (by kernel_rfl))⟩
    · intro s0 s1 s2 s3 s4 s5 s6 s7 s8 s9 s10 s11 s12 s13 hc hi hp a w hS
      obtain rfl : s8 = false := hi
      obtain rfl : s7 = true := hp 7 (by kernel_rfl)
      obtain ⟨bb4, bb5, hF, hM⟩ := hS
      refine eL 23 3 3 (v := .int .u32 n3) hF hM (by kernel_rfl) rfl rfl (by kernel_rfl) (by kernel_rfl) fun a w hF hM => ?_
      exact ⟨bb4, bb5, ((hF.repl 14 (by kernel_rfl)).cast (by kernel_rfl)), (hM.cast (by kernel_rfl))⟩
    · intro s0 s1 s2 s3 s4 s5 s6 s7 s8 s9 s10 s11 s12 s13 hc hi hp a w hS
      obtain rfl : s9 = false := hi
      obtain rfl : s8 = true := hp 8 (by kernel_rfl)
      obtain rfl : s6 = true := hp 6 (by kernel_rfl)
      obtain ⟨bb4, bb5, hF, hM⟩ := hS
      refine eM 24 (v := .agg #[.int .i64 (1 + n2 % 2097152), .int .i64 (n3 % 268435457)]) hF hM (by kernel_rfl) (yld_call (f := 13) (args := #[.int .u32 n2, .int .u32 n3]) hF (by kernel_rfl) (fun _ => by kernel_rfl) (fun w hM => rOf4_w n2 n3 w (by omega))) fun a w hF hM => ?_
      exact ⟨bb4, bb5, ((hF.repl 15 (by kernel_rfl)).cast (by kernel_rfl)), (hM.cast (by kernel_rfl))⟩
    · intro s0 s1 s2 s3 s4 s5 s6 s7 s8 s9 s10 s11 s12 s13 hc hi hp a w hS
      obtain rfl : s10 = false := hi
      obtain rfl : s12 = false := hc.f 12 10 (by kernel_rfl) rfl
      obtain ⟨bb4, bb5, hF, hM⟩ := hS
      refine eN 7 4 (t := 23) (fun b => .pointer (some ⟨b, 0, none⟩)) #[.int .i64 0, .int .i64 0] hF hM (by kernel_rfl) (fun _ => by kernel_rfl) fun bb4 a w hF hM => ?_
      exact ⟨bb4, bb5, ((hF.repl 4 (by kernel_rfl)).cast (by kernel_rfl)), ((hM.repl 3 (by kernel_rfl)).cast (by kernel_rfl))⟩
    · intro s0 s1 s2 s3 s4 s5 s6 s7 s8 s9 s10 s11 s12 s13 hc hi hp a w hS
      obtain rfl : s11 = false := hi
      obtain rfl : s13 = false := hc.f 13 11 (by kernel_rfl) rfl
      obtain ⟨bb4, bb5, hF, hM⟩ := hS
      refine eN 8 5 (t := 23) (fun b => .pointer (some ⟨b, 0, none⟩)) #[.int .i64 0, .int .i64 0] hF hM (by kernel_rfl) (fun _ => by kernel_rfl) fun bb5 a w hF hM => ?_
      exact ⟨bb4, bb5, ((hF.repl 5 (by kernel_rfl)).cast (by kernel_rfl)), ((hM.repl 4 (by kernel_rfl)).cast (by kernel_rfl))⟩
    · intro s0 s1 s2 s3 s4 s5 s6 s7 s8 s9 s10 s11 s12 s13 hc hi hp a w hS
      obtain rfl : s12 = false := hi
      obtain rfl : s10 = true := hp 10 (by kernel_rfl)
      obtain rfl : s4 = true := hp 4 (by kernel_rfl)
      obtain ⟨bb4, bb5, hF, hM⟩ := hS
      refine sStore (i := 4) (off := 0) (cs' := #[.int .i64 (1 + n0 % 2097152), .int .i64 (n1 % 268435457)]) hF hM (by kernel_rfl) rfl rfl (by kernel_rfl) (by kernel_rfl) rfl (by kernel_rfl) fun w hM => ?_
      exact ⟨bb4, bb5, (hF.cast (by kernel_rfl)), ((hM.repl 3 (by kernel_rfl)).cast (by kernel_rfl))⟩
    · intro s0 s1 s2 s3 s4 s5 s6 s7 s8 s9 s10 s11 s12 s13 hc hi hp a w hS
      obtain rfl : s13 = false := hi
      obtain rfl : s11 = true := hp 11 (by kernel_rfl)
      obtain rfl : s9 = true := hp 9 (by kernel_rfl)
      obtain ⟨bb4, bb5, hF, hM⟩ := hS
      refine sStore (i := 5) (off := 0) (cs' := #[.int .i64 (1 + n2 % 2097152), .int .i64 (n3 % 268435457)]) hF hM (by kernel_rfl) rfl rfl (by kernel_rfl) (by kernel_rfl) rfl (by kernel_rfl) fun w hM => ?_
      exact ⟨bb4, bb5, (hF.cast (by kernel_rfl)), ((hM.repl 4 (by kernel_rfl)).cast (by kernel_rfl))⟩
  · intro a w hS
    obtain ⟨bb4, bb5, hF, hM⟩ := hS
    replace hF : Fr 90 [(3, some (.pointer (some ⟨bb1, 0, none⟩))), (4, some (.pointer (some ⟨bb2, 0, none⟩))), (5, some (.pointer (some ⟨bb3, 0, none⟩))), (6, some (.bool false)), (7, some (.pointer (some ⟨bb4, 0, none⟩))), (8, some (.pointer (some ⟨bb5, 0, none⟩))), (15, some (.pointer (some ⟨bb3, 0, none⟩))), (16, some (.int .u32 n0)), (17, some (.pointer (some ⟨bb3, 1, none⟩))), (18, some (.int .u32 n1)), (19, some (.agg #[.int .i64 (1 + n0 % 2097152), .int .i64 (n1 % 268435457)])), (20, some (.pointer (some ⟨bb3, 2, none⟩))), (21, some (.int .u32 n2)), (22, some (.pointer (some ⟨bb3, 3, none⟩))), (23, some (.int .u32 n3)), (24, some (.agg #[.int .i64 (1 + n2 % 2097152), .int .i64 (n3 % 268435457)]))] a := hF.cast (by kernel_rfl)
    replace hM : Mem w0.heap.size w0 [(1, some (.row bb1 23 #[.int .i64 ar, .int .i64 au])), (2, some (.row bb2 23 #[.int .i64 br, .int .i64 bu])), (3, some (.row bb3 25 #[.int .u32 n0, .int .u32 n1, .int .u32 n2, .int .u32 n3])), (4, some (.row bb4 23 #[.int .i64 (1 + n0 % 2097152), .int .i64 (n1 % 268435457)])), (5, some (.row bb5 23 #[.int .i64 (1 + n2 % 2097152), .int .i64 (n3 % 268435457)]))] w := hM.cast (by kernel_rfl)
    refine hK2 _ _ ?_
    refine wp_seq_k fun K3 hK3 => ?_
    refine wp_seq_k fun K4 hK4 => ?_
    refine wp_region_lit ?_
    refine wl (eL 25 1 0 (v := .agg #[.int .i64 ar, .int .i64 au]) hF hM (by kernel_rfl) rfl rfl (by kernel_rfl) (by kernel_rfl) fun a w hF hM => ?_)
    refine wl (eL 26 2 0 (v := .agg #[.int .i64 br, .int .i64 bu]) hF hM (by kernel_rfl) rfl rfl (by kernel_rfl) (by kernel_rfl) fun a w hF hM => ?_)
    refine sB 1 [(27, .agg #[.int .i64 ar, .int .i64 au, .int .i64 br, .int .i64 bu])] hF (by kernel_rfl) fun a hF => ?_
    refine wl (eL 28 4 0 (v := .agg #[.int .i64 (1 + n0 % 2097152), .int .i64 (n1 % 268435457)]) hF hM (by kernel_rfl) rfl rfl (by kernel_rfl) (by kernel_rfl) fun a w hF hM => ?_)
    refine wl (eL 29 5 0 (v := .agg #[.int .i64 (1 + n2 % 2097152), .int .i64 (n3 % 268435457)]) hF hM (by kernel_rfl) rfl rfl (by kernel_rfl) (by kernel_rfl) fun a w hF hM => ?_)
    refine sB 1 [(30, .agg #[.int .i64 (1 + n0 % 2097152), .int .i64 (n1 % 268435457), .int .i64 (1 + n2 % 2097152), .int .i64 (n3 % 268435457)])] hF (by kernel_rfl) fun a hF => ?_
    refine wl (eL 31 4 0 (v := .agg #[.int .i64 (1 + n0 % 2097152), .int .i64 (n1 % 268435457)]) hF hM (by kernel_rfl) rfl rfl (by kernel_rfl) (by kernel_rfl) fun a w hF hM => ?_)
    refine wl (eL 32 2 0 (v := .agg #[.int .i64 br, .int .i64 bu]) hF hM (by kernel_rfl) rfl rfl (by kernel_rfl) (by kernel_rfl) fun a w hF hM => ?_)
    refine sB 2 [(33, .agg #[.int .i64 (1 + n0 % 2097152), .int .i64 (n1 % 268435457), .int .i64 br, .int .i64 bu]), (34, .pointer (some ⟨bb1, 0, none⟩))] hF (by kernel_rfl) fun a hF => ?_
    refine wl (eL 35 1 0 (v := .int .i64 ar) hF hM (by kernel_rfl) rfl rfl (by kernel_rfl) (by kernel_rfl) fun a w hF hM => ?_)
    refine sB 1 [(36, .pointer (some ⟨bb4, 1, none⟩))] hF (by kernel_rfl) fun a hF => ?_
    refine wl (eL 37 4 1 (v := .int .i64 (n1 % 268435457)) hF hM (by kernel_rfl) rfl rfl (by kernel_rfl) (by kernel_rfl) fun a w hF hM => ?_)
    refine sB 1 [(38, .agg #[.int .i64 ar, .int .i64 (n1 % 268435457)])] hF (by kernel_rfl) fun a hF => ?_
    refine wl (eL 39 5 0 (v := .agg #[.int .i64 (1 + n2 % 2097152), .int .i64 (n3 % 268435457)]) hF hM (by kernel_rfl) rfl rfl (by kernel_rfl) (by kernel_rfl) fun a w hF hM => ?_)
    refine sB 2 [(40, .agg #[.int .i64 ar, .int .i64 (n1 % 268435457), .int .i64 (1 + n2 % 2097152), .int .i64 (n3 % 268435457)]), (41, .pointer (some ⟨bb4, 0, none⟩))] hF (by kernel_rfl) fun a hF => ?_
    refine wl (eL 42 4 0 (v := .int .i64 (1 + n0 % 2097152)) hF hM (by kernel_rfl) rfl rfl (by kernel_rfl) (by kernel_rfl) fun a w hF hM => ?_)
    refine sB 1 [(43, .pointer (some ⟨bb1, 1, none⟩))] hF (by kernel_rfl) fun a hF => ?_
    refine wl (eL 44 1 1 (v := .int .i64 au) hF hM (by kernel_rfl) rfl rfl (by kernel_rfl) (by kernel_rfl) fun a w hF hM => ?_)
    refine sB 2 [(45, .agg #[.int .i64 (1 + n0 % 2097152), .int .i64 au]), (46, .pointer (some ⟨bb5, 1, none⟩))] hF (by kernel_rfl) fun a hF => ?_
    refine wl (eL 47 5 1 (v := .int .i64 (n3 % 268435457)) hF hM (by kernel_rfl) rfl rfl (by kernel_rfl) (by kernel_rfl) fun a w hF hM => ?_)
    refine wl (eM 48 (v := .int .i64 (n3 % 268435457 % 9)) hF hM (by kernel_rfl) (yld_rem (n3 % 268435457) 9 hF rfl (by kernel_rfl) (by kernel_rfl) (by kernel_rfl) (by decide) (Int.tmod_eq_emod_of_nonneg (by omega))) fun a w hF hM => ?_)
    refine sB 4 [(49, .agg #[.int .i64 1, .int .i64 (n3 % 268435457 % 9)]), (50, .agg #[.int .i64 (1 + n0 % 2097152), .int .i64 au, .int .i64 1, .int .i64 (n3 % 268435457 % 9)]), (51, .agg #[.int .i64 ar, .int .i64 au, .int .i64 br, .int .i64 bu, .int .i64 (1 + n0 % 2097152), .int .i64 (n1 % 268435457), .int .i64 (1 + n2 % 2097152), .int .i64 (n3 % 268435457), .int .i64 (1 + n0 % 2097152), .int .i64 (n1 % 268435457), .int .i64 br, .int .i64 bu, .int .i64 ar, .int .i64 (n1 % 268435457), .int .i64 (1 + n2 % 2097152), .int .i64 (n3 % 268435457), .int .i64 (1 + n0 % 2097152), .int .i64 au, .int .i64 1, .int .i64 (n3 % 268435457 % 9)]), (52, .int .i64 0)] hF (by kernel_rfl) fun a hF => ?_
    refine wpList_nil ?_
    refine hK4 _ _ ?_
    refine wp_block ?_
    refine wp_loop_k (G := Nat) (fun gg a w => Fr 90 [(52, some (.int .i64 (gg : Int))), (51, some (.agg #[.int .i64 ar, .int .i64 au, .int .i64 br, .int .i64 bu, .int .i64 (1 + n0 % 2097152), .int .i64 (n1 % 268435457), .int .i64 (1 + n2 % 2097152), .int .i64 (n3 % 268435457), .int .i64 (1 + n0 % 2097152), .int .i64 (n1 % 268435457), .int .i64 br, .int .i64 bu, .int .i64 ar, .int .i64 (n1 % 268435457), .int .i64 (1 + n2 % 2097152), .int .i64 (n3 % 268435457), .int .i64 (1 + n0 % 2097152), .int .i64 au, .int .i64 1, .int .i64 (n3 % 268435457 % 9)]))] a ∧ Mem w0.heap.size w0 [] w ∧ ((gg : Int) ≤ 5)) (fun gg => 5 - gg) (0) ?_ ?_
    · refine ⟨(((Fr.nil hF).c hF (i := 51) rfl rfl).c hF (i := 52) rfl (vi (show (0 : Int) = (0 : Int) from by omega))), (hM.sub Sub.nil), (show (0 : Int) ≤ 5 from by omega)⟩
    · intro gg a w hI
      intro K5 hK5
      obtain ⟨k52, rfl⟩ : ∃ x, x = gg := ⟨_, rfl⟩
      try dsimp only at hI hK5
      obtain ⟨hF, hM, hz1⟩ := hI
      refine wp_seq_k fun K6 hK6 => ?_
      refine wp_region_lit ?_
      refine sB 1 [(53, .bool (decide ((k52 : Int) < 5)))] hF (by kernel_rfl) fun a hF => ?_
      refine wpList_nil ?_
      refine hK6 _ _ ?_
      refine wp_seq_k fun K7 hK7 => ?_
      by_cases hz2 : (k52 : Int) < 5
      · skip
        replace hF := hF.c hF (i := 53) (v := .bool true) rfl (bT hz2)
        refine cT hF (by kernel_rfl) (by kernel_rfl) ?_
        refine wp_skip ?_
        refine hK7 _ _ ?_
        refine wp_seq_k fun K8 hK8 => ?_
        refine wp_block ?_
        refine wp_seq_k fun K9 hK9 => ?_
        refine wp_region_lit ?_
        obtain ⟨ys2, hl2, hm2, hy2⟩ := idx_agg (P := Try.prog) (t := 28) (e := 27) (len := 5) (m := 4) (kd := .i64) [ar, au, br, bu, 1 + n0 % 2097152, n1 % 268435457, 1 + n2 % 2097152, n3 % 268435457, 1 + n0 % 2097152, n1 % 268435457, br, bu, ar, n1 % 268435457, 1 + n2 % 2097152, n3 % 268435457, 1 + n0 % 2097152, au, 1, n3 % 268435457 % 9] ((k52 : Int)) (by kernel_rfl) (by kernel_rfl) (by omega) rfl
        obtain ⟨y2_0, y2_1, y2_2, y2_3, rfl⟩ := len4 hl2
        refine wl (eM 54 (v := .agg #[.int .i64 y2_0, .int .i64 y2_1, .int .i64 y2_2, .int .i64 y2_3]) hF hM (by kernel_rfl) (yld_index (X := .agg #[.int .i64 ar, .int .i64 au, .int .i64 br, .int .i64 bu, .int .i64 (1 + n0 % 2097152), .int .i64 (n1 % 268435457), .int .i64 (1 + n2 % 2097152), .int .i64 (n3 % 268435457), .int .i64 (1 + n0 % 2097152), .int .i64 (n1 % 268435457), .int .i64 br, .int .i64 bu, .int .i64 ar, .int .i64 (n1 % 268435457), .int .i64 (1 + n2 % 2097152), .int .i64 (n3 % 268435457), .int .i64 (1 + n0 % 2097152), .int .i64 au, .int .i64 1, .int .i64 (n3 % 268435457 % 9)]) (I := .int .i64 ((k52 : Int))) hF rfl (by kernel_rfl) (by kernel_rfl) (by kernel_rfl) (fun w => hy2 w)) fun a w hF hM => ?_)
        refine wl (eN 10 6 (t := 27) (fun b => .pointer (some ⟨b, 0, none⟩)) #[.int .i64 0, .int .i64 0, .int .i64 0, .int .i64 0] hF hM (by kernel_rfl) (fun _ => by kernel_rfl) fun bb6 a w hF hM => ?_)
        refine wl (sStore (i := 6) (off := 0) (cs' := #[.int .i64 y2_0, .int .i64 y2_1, .int .i64 y2_2, .int .i64 y2_3]) hF hM (by kernel_rfl) rfl rfl (by kernel_rfl) (by kernel_rfl) rfl (by kernel_rfl) fun w hM => ?_)
        refine wpList_nil ?_
        refine hK9 _ _ ?_
        refine wp_seq_k fun K10 hK10 => ?_
        refine wp_region_lit ?_
        refine sB 1 [(56, .pointer (some ⟨bb6, 0, none⟩))] hF (by kernel_rfl) fun a hF => ?_
        refine wl (eL 57 6 0 (v := .agg #[.int .i64 y2_0, .int .i64 y2_1]) hF hM (by kernel_rfl) rfl rfl (by kernel_rfl) (by kernel_rfl) fun a w hF hM => ?_)
        refine sB 1 [(58, .pointer (some ⟨bb6, 2, none⟩))] hF (by kernel_rfl) fun a hF => ?_
        refine wl (eL 59 6 2 (v := .agg #[.int .i64 y2_2, .int .i64 y2_3]) hF hM (by kernel_rfl) rfl rfl (by kernel_rfl) (by kernel_rfl) fun a w hF hM => ?_)
        refine wl (eM 60 (v := .tuple #[.agg #[.int .i64 (jnA y2_0 y2_1 y2_2 y2_3), .int .i64 (jnB y2_0 y2_1 y2_2 y2_3)], .int .i64 (jnE y2_0 y2_1 y2_2 y2_3)]) hF hM (by kernel_rfl) (yld_call (f := 14) (args := #[.agg #[.int .i64 y2_0, .int .i64 y2_1], .agg #[.int .i64 y2_2, .int .i64 y2_3]]) hF (by kernel_rfl) (fun _ => by kernel_rfl) (fun w hM => join_w y2_0 y2_1 y2_2 y2_3 w)) fun a w hF hM => ?_)
        refine sB 3 [(55, .tuple #[.agg #[.int .i64 (jnA y2_0 y2_1 y2_2 y2_3), .int .i64 (jnB y2_0 y2_1 y2_2 y2_3)], .int .i64 (jnE y2_0 y2_1 y2_2 y2_3)]), (61, .agg #[.int .i64 (jnA y2_0 y2_1 y2_2 y2_3), .int .i64 (jnB y2_0 y2_1 y2_2 y2_3)]), (62, .int .i64 (jnE y2_0 y2_1 y2_2 y2_3))] hF (by kernel_rfl) fun a hF => ?_
        refine wl (eN 11 7 (t := 23) (fun b => .pointer (some ⟨b, 0, none⟩)) #[.int .i64 0, .int .i64 0] hF hM (by kernel_rfl) (fun _ => by kernel_rfl) fun bb7 a w hF hM => ?_)
        refine wl (sStore (i := 7) (off := 0) (cs' := #[.int .i64 (jnA y2_0 y2_1 y2_2 y2_3), .int .i64 (jnB y2_0 y2_1 y2_2 y2_3)]) hF hM (by kernel_rfl) rfl rfl (by kernel_rfl) (by kernel_rfl) rfl (by kernel_rfl) fun w hM => ?_)
        refine sB 1 [(12, .int .i64 (jnE y2_0 y2_1 y2_2 y2_3))] hF (by kernel_rfl) fun a hF => ?_
        refine wpList_nil ?_
        refine hK10 _ _ ?_
        refine wp_seq_k fun K11 hK11 => ?_
        refine wp_region_lit ?_
        refine sB 1 [(64, .pointer (some ⟨bb6, 0, none⟩))] hF (by kernel_rfl) fun a hF => ?_
        refine wl (eL 65 6 0 (v := .agg #[.int .i64 y2_0, .int .i64 y2_1]) hF hM (by kernel_rfl) rfl rfl (by kernel_rfl) (by kernel_rfl) fun a w hF hM => ?_)
        refine sB 1 [(66, .pointer (some ⟨bb6, 2, none⟩))] hF (by kernel_rfl) fun a hF => ?_
        refine wl (eL 67 6 2 (v := .agg #[.int .i64 y2_2, .int .i64 y2_3]) hF hM (by kernel_rfl) rfl rfl (by kernel_rfl) (by kernel_rfl) fun a w hF hM => ?_)
        refine wl (eM 68 (v := .tuple #[.agg #[.int .i64 (jnA y2_0 y2_1 y2_2 y2_3), .int .i64 (jnB y2_0 y2_1 y2_2 y2_3)], .int .i64 (jnE y2_0 y2_1 y2_2 y2_3)]) hF hM (by kernel_rfl) (yld_call (f := 15) (args := #[.agg #[.int .i64 y2_0, .int .i64 y2_1], .agg #[.int .i64 y2_2, .int .i64 y2_3]]) hF (by kernel_rfl) (fun _ => by kernel_rfl) (fun w hM => rJoin4_w y2_0 y2_1 y2_2 y2_3 w)) fun a w hF hM => ?_)
        refine sB 3 [(63, .tuple #[.agg #[.int .i64 (jnA y2_0 y2_1 y2_2 y2_3), .int .i64 (jnB y2_0 y2_1 y2_2 y2_3)], .int .i64 (jnE y2_0 y2_1 y2_2 y2_3)]), (69, .agg #[.int .i64 (jnA y2_0 y2_1 y2_2 y2_3), .int .i64 (jnB y2_0 y2_1 y2_2 y2_3)]), (70, .int .i64 (jnE y2_0 y2_1 y2_2 y2_3))] hF (by kernel_rfl) fun a hF => ?_
        refine wl (eN 13 8 (t := 23) (fun b => .pointer (some ⟨b, 0, none⟩)) #[.int .i64 0, .int .i64 0] hF hM (by kernel_rfl) (fun _ => by kernel_rfl) fun bb8 a w hF hM => ?_)
        refine wl (sStore (i := 8) (off := 0) (cs' := #[.int .i64 (jnA y2_0 y2_1 y2_2 y2_3), .int .i64 (jnB y2_0 y2_1 y2_2 y2_3)]) hF hM (by kernel_rfl) rfl rfl (by kernel_rfl) (by kernel_rfl) rfl (by kernel_rfl) fun w hM => ?_)
        refine sB 1 [(14, .int .i64 (jnE y2_0 y2_1 y2_2 y2_3))] hF (by kernel_rfl) fun a hF => ?_
        refine wpList_nil ?_
        refine hK11 _ _ ?_
        refine wp_seq_k fun K12 hK12 => ?_
        refine rQ hM (by kernel_rfl) (by kernel_rfl) ?_
        refine eQL 71 7 0 (v := .agg #[.int .i64 (jnA y2_0 y2_1 y2_2 y2_3), .int .i64 (jnB y2_0 y2_1 y2_2 y2_3)]) hF (by kernel_rfl) rfl rfl (by kernel_rfl) (by kernel_rfl) fun a hF => ?_
        refine eQL 72 8 0 (v := .agg #[.int .i64 (jnA y2_0 y2_1 y2_2 y2_3), .int .i64 (jnB y2_0 y2_1 y2_2 y2_3)]) hF (by kernel_rfl) rfl rfl (by kernel_rfl) (by kernel_rfl) fun a hF => ?_
        refine eQ2 73 (v := .bool false) hF (by kernel_rfl) ((yld_neq (C := Mem _ _ _) [jnA y2_0 y2_1 y2_2 y2_3, jnB y2_0 y2_1 y2_2 y2_3] [jnA y2_0 y2_1 y2_2 y2_3, jnB y2_0 y2_1 y2_2 y2_3] hF rfl (by kernel_rfl) (by kernel_rfl) (by kernel_rfl) rfl (by kernel_rfl) (by kernel_rfl) (by kernel_rfl) rfl rfl).to (nT rfl)) fun a hF => ?_
        refine eQ 74 (v0 := .bool false) (v := .bool false) hF (by kernel_rfl) (fun _ => by kernel_rfl) rfl fun a hF => ?_
        refine eQ 75 (v0 := .int .i64 (jnE y2_0 y2_1 y2_2 y2_3)) (v := .int .i64 (jnE y2_0 y2_1 y2_2 y2_3)) hF (by kernel_rfl) (fun _ => by kernel_rfl) rfl fun a hF => ?_
        refine eQ 76 (v0 := .int .i64 (jnE y2_0 y2_1 y2_2 y2_3)) (v := .int .i64 (jnE y2_0 y2_1 y2_2 y2_3)) hF (by kernel_rfl) (fun _ => by kernel_rfl) rfl fun a hF => ?_
        refine eQ 77 (v0 := .bool (!decide (jnE y2_0 y2_1 y2_2 y2_3 = jnE y2_0 y2_1 y2_2 y2_3))) (v := .bool false) hF (by kernel_rfl) (fun _ => by kernel_rfl) (nT (by omega)) fun a hF => ?_
        refine eQ 78 (v0 := .bool false) (v := .bool false) hF (by kernel_rfl) (fun _ => by kernel_rfl) rfl fun a hF => ?_
        refine eQ 79 (v0 := .bool false) (v := .bool false) hF (by kernel_rfl) (fun _ => by kernel_rfl) rfl fun a hF => ?_
        refine eQ 80 (v0 := .pointer (some ⟨bb6, 0, none⟩)) (v := .pointer (some ⟨bb6, 0, none⟩)) hF (by kernel_rfl) (fun _ => by kernel_rfl) rfl fun a hF => ?_
        refine eQL 81 6 0 (v := .agg #[.int .i64 y2_0, .int .i64 y2_1]) hF (by kernel_rfl) rfl rfl (by kernel_rfl) (by kernel_rfl) fun a hF => ?_
        refine eQ2 82 (v := .int .i64 (svE y2_0 y2_1)) hF (by kernel_rfl) (yld_call (f := 16) (args := #[.agg #[.int .i64 y2_0, .int .i64 y2_1]]) hF (by kernel_rfl) (fun _ => by kernel_rfl) (fun w hM => svCheck_w y2_0 y2_1 w)) fun a hF => ?_
        refine eQ 83 (v0 := .pointer (some ⟨bb6, 0, none⟩)) (v := .pointer (some ⟨bb6, 0, none⟩)) hF (by kernel_rfl) (fun _ => by kernel_rfl) rfl fun a hF => ?_
        refine eQL 84 6 0 (v := .agg #[.int .i64 y2_0, .int .i64 y2_1]) hF (by kernel_rfl) rfl rfl (by kernel_rfl) (by kernel_rfl) fun a hF => ?_
        refine eQ2 85 (v := .int .i64 (svE y2_0 y2_1)) hF (by kernel_rfl) (yld_call (f := 17) (args := #[.agg #[.int .i64 y2_0, .int .i64 y2_1]]) hF (by kernel_rfl) (fun _ => by kernel_rfl) (fun w hM => rCheck4_w y2_0 y2_1 w)) fun a hF => ?_
        refine eQ 86 (v0 := .bool (!decide (svE y2_0 y2_1 = svE y2_0 y2_1))) (v := .bool false) hF (by kernel_rfl) (fun _ => by kernel_rfl) (nT (by omega)) fun a hF => ?_
        refine eQ 87 (v0 := .bool false) (v := .bool false) hF (by kernel_rfl) (fun _ => by kernel_rfl) rfl fun a hF => ?_
        refine wpQuiet_nil ?_
        intro w hM
        refine hK12 _ _ ?_
        refine cF hF (by kernel_rfl) (by kernel_rfl) ?_
        refine wp_skip ?_
        refine hK8 _ _ ?_
        refine wp_region_lit ?_
        refine wl (eP 88 (v0 := .int .i64 (IntKind.i64.wrap ((k52 : Int) + 1))) (v := .int .i64 ((k52 : Int) + 1)) hF (by kernel_rfl) (fun _ => by kernel_rfl) (wi (by omega)) fun a hF => ?_)
        refine sB 1 [(52, .int .i64 ((k52 : Int) + 1))] hF (by kernel_rfl) fun a hF => ?_
        refine wpList_nil ?_
        refine hK5 _ _ ⟨(k52 + 1), ⟨(((Fr.nil hF).c hF (i := 51) rfl rfl).c hF (i := 52) rfl (vi (show ((k52 : Int) + 1 : Int) = ((k52 + 1) : Int) from by omega))), (hM.sub Sub.nil), (show ((k52 + 1) : Int) ≤ 5 from by omega)⟩, (show 5 - (k52 + 1) < 5 - k52 from by omega)⟩
      · skip
        replace hF := hF.c hF (i := 53) (v := .bool false) rfl (bF hz2)
        refine cF hF (by kernel_rfl) (by kernel_rfl) ?_
        refine wp_exit ?_
        refine hK3 _ _ ?_
        refine wp_seq_k fun K13 hK13 => ?_
        refine wp_region_lit ?_
        refine wl (eM 89 (v := .bool true) hF hM (by kernel_rfl) (yld_call (f := 18) (args := #[]) hF (by kernel_rfl) (fun _ => by kernel_rfl) (fun w hM => works4_w w)) fun a w hF hM => ?_)
        refine sB 1 [(6, .bool true)] hF (by kernel_rfl) fun a hF => ?_
        refine wpList_nil ?_
        refine hK13 _ _ ?_
        refine wp_ret ?_
        refine hR0 _ _ ?_
        refine ret_of hF hM (.tmp rfl (.nil)) ?_
        exact ⟨rfl, hM.bel⟩

end Go.Proofs.Ytoighcbbaacnaaa
