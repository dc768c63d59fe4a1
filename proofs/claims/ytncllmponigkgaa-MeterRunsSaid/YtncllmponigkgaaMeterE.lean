/-
  Drafts, pairs of buckets.
-/
import Derived.Test.YtncllmponigkgaaMeterD
namespace Go.Proofs.Ytncllmponigkgaa
open Go.RowKit
set_option linter.unusedVariables false
set_option linter.unusedSimpArgs false

theorem draftBucket_w (bu ra : Int) (g s : Value) (w0 : World) (h : 0 ≤ bu ∧ bu < 4294967296 ∧ 0 ≤ ra ∧ ra < 4294967296) :
    Calls Try.prog 26 #[.agg #[.int .u32 bu, .int .u32 ra, g, s]] w0 (Ret w0 (.agg #[.int .i64 (1 + bu % 1048576), .int .i64 (1 + ra % 2097152)])) := by
  refine enterK 14 Try.func26 rfl rfl rfl ?_
  intro a hF Q0 hR0 hN0
  have hM := Mem.start w0
  refine wp_seq_k fun K1 hK1 => ?_
  refine wp_region_lit ?_
  refine wl (eN 1 1 (t := 28) (fun b => .pointer (some ⟨b, 0, none⟩)) #[.int .u32 bu, .int .u32 ra, g, s] hF hM (by kernel_rfl) (fun _ => by kernel_rfl) fun bb1 a w hF hM => ?_)
  refine wl (eN 2 2 (t := 23) (fun b => .pointer (some ⟨b, 0, none⟩)) #[.int .i64 0, .int .i64 0] hF hM (by kernel_rfl) (fun _ => by kernel_rfl) fun bb2 a w hF hM => ?_)
  refine wpList_nil ?_
  refine hK1 _ _ ?_
  refine wp_seq_k fun K2 hK2 => ?_
  refine wp_region_lit ?_
  refine sB 1 [(3, .pointer (some ⟨bb1, 0, none⟩))] hF (by kernel_rfl) fun a hF => ?_
  refine wl (eL 4 1 0 (v := .int .u32 bu) hF hM (by kernel_rfl) rfl rfl (by kernel_rfl) (by kernel_rfl) fun a w hF hM => ?_)
  refine wl (eM 5 (v := .int .u32 (bu % 1048576)) hF hM (by kernel_rfl) (yld_rem bu 1048576 hF rfl (by kernel_rfl) (by kernel_rfl) (by kernel_rfl) (by decide) (Int.tmod_eq_emod_of_nonneg (by omega))) fun a w hF hM => ?_)
  refine wl (eP 6 (v0 := .int .i64 (IntKind.i64.wrap (bu % 1048576))) (v := .int .i64 (bu % 1048576)) hF (by kernel_rfl) (fun _ => by kernel_rfl) (vi (IntWalk.i64_in _ (by omega))) fun a hF => ?_)
  refine wl (eP 7 (v0 := .int .i64 (IntKind.i64.wrap (1 + bu % 1048576))) (v := .int .i64 (1 + bu % 1048576)) hF (by kernel_rfl) (fun _ => by kernel_rfl) (wi (by omega)) fun a hF => ?_)
  refine sB 1 [(8, .pointer (some ⟨bb1, 1, none⟩))] hF (by kernel_rfl) fun a hF => ?_
  refine wl (eL 9 1 1 (v := .int .u32 ra) hF hM (by kernel_rfl) rfl rfl (by kernel_rfl) (by kernel_rfl) fun a w hF hM => ?_)
  refine wl (eM 10 (v := .int .u32 (ra % 2097152)) hF hM (by kernel_rfl) (yld_rem ra 2097152 hF rfl (by kernel_rfl) (by kernel_rfl) (by kernel_rfl) (by decide) (Int.tmod_eq_emod_of_nonneg (by omega))) fun a w hF hM => ?_)
  refine wl (eP 11 (v0 := .int .i64 (IntKind.i64.wrap (ra % 2097152))) (v := .int .i64 (ra % 2097152)) hF (by kernel_rfl) (fun _ => by kernel_rfl) (vi (IntWalk.i64_in _ (by omega))) fun a hF => ?_)
  refine wl (eP 12 (v0 := .int .i64 (IntKind.i64.wrap (1 + ra % 2097152))) (v := .int .i64 (1 + ra % 2097152)) hF (by kernel_rfl) (fun _ => by kernel_rfl) (wi (by omega)) fun a hF => ?_)
  refine sB 1 [(13, .agg #[.int .i64 (1 + bu % 1048576), .int .i64 (1 + ra % 2097152)])] hF (by kernel_rfl) fun a hF => ?_
  refine wl (sStore (i := 2) (off := 0) (cs' := #[.int .i64 (1 + bu % 1048576), .int .i64 (1 + ra % 2097152)]) hF hM (by kernel_rfl) rfl rfl (by kernel_rfl) (by kernel_rfl) rfl (by kernel_rfl) fun w hM => ?_)
  refine wpList_nil ?_
  refine hK2 _ _ ?_
  refine wp_ret ?_
  refine hR0 _ _ ?_
  refine ret_of hF hM (.cell (i := 2) rfl rfl (v := .agg #[.int .i64 (1 + bu % 1048576), .int .i64 (1 + ra % 2097152)]) (by kernel_rfl) (.nil)) ?_
  exact ⟨rfl, hM.bel⟩

theorem pair_w (bu ra : Int) (g s : Value) (n m : Int) (w0 : World) (h : 0 ≤ bu ∧ bu < 4294967296 ∧ 0 ≤ ra ∧ ra < 4294967296 ∧ 0 ≤ n ∧ n < 65536 ∧ 0 ≤ m ∧ m < 4294967296) :
    Calls Try.prog 9 #[.agg #[.int .u32 bu, .int .u32 ra, g, s], .int .u16 n, .int .u32 m] w0 (Ret w0 (.tuple #[.agg #[.int .i64 (1 + bu % 1048576), .int .i64 (1 + ra % 2097152)], .agg #[.int .i64 (1 + n), .int .i64 (min 2097152 (1 + ra % 2097152 + m % 524288))]])) := by
  refine enterK 23 Try.func9 rfl rfl rfl ?_
  intro a hF Q0 hR0 hN0
  have hM := Mem.start w0
  refine wp_seq_k fun K1 hK1 => ?_
  refine wp_region_lit ?_
  refine wl (eN 3 1 (t := 28) (fun b => .pointer (some ⟨b, 0, none⟩)) #[.int .u32 bu, .int .u32 ra, g, s] hF hM (by kernel_rfl) (fun _ => by kernel_rfl) fun bb1 a w hF hM => ?_)
  refine wl (eN 6 2 (t := 23) (fun b => .pointer (some ⟨b, 0, none⟩)) #[.int .i64 0, .int .i64 0] hF hM (by kernel_rfl) (fun _ => by kernel_rfl) fun bb2 a w hF hM => ?_)
  refine wl (eN 7 3 (t := 23) (fun b => .pointer (some ⟨b, 0, none⟩)) #[.int .i64 0, .int .i64 0] hF hM (by kernel_rfl) (fun _ => by kernel_rfl) fun bb3 a w hF hM => ?_)
  refine wpList_nil ?_
  refine hK1 _ _ ?_
  refine wp_seq_k fun K2 hK2 => ?_
  refine wp_region_lit ?_
  refine wl (eL 9 1 0 (v := .agg #[.int .u32 bu, .int .u32 ra, g, s]) hF hM (by kernel_rfl) rfl rfl (by kernel_rfl) (by kernel_rfl) fun a w hF hM => ?_)
  refine wl (eM 10 (v := .agg #[.int .i64 (1 + bu % 1048576), .int .i64 (1 + ra % 2097152)]) hF hM (by kernel_rfl) (yld_call (f := 26) (args := #[.agg #[.int .u32 bu, .int .u32 ra, g, s]]) hF (by kernel_rfl) (fun _ => by kernel_rfl) (fun w hM => draftBucket_w bu ra (g) (s) w (by omega))) fun a w hF hM => ?_)
  refine wl (eN 8 4 (t := 23) (fun b => .pointer (some ⟨b, 0, none⟩)) #[.int .i64 0, .int .i64 0] hF hM (by kernel_rfl) (fun _ => by kernel_rfl) fun bb4 a w hF hM => ?_)
  refine wl (sStore (i := 4) (off := 0) (cs' := #[.int .i64 (1 + bu % 1048576), .int .i64 (1 + ra % 2097152)]) hF hM (by kernel_rfl) rfl rfl (by kernel_rfl) (by kernel_rfl) rfl (by kernel_rfl) fun w hM => ?_)
  refine wpList_nil ?_
  refine hK2 _ _ ?_
  refine wp_seq_k fun K3 hK3 => ?_
  refine rF (by kernel_rfl) (by kernel_rfl) (fun S a w => Fr 23 [(1, some (.int .u16 n)), (2, some (.int .u32 m)), (6, some (.pointer (some ⟨bb2, 0, none⟩))), (7, some (.pointer (some ⟨bb3, 0, none⟩))), (8, some (.pointer (some ⟨bb4, 0, none⟩))), (11, (cond (S.getD 0 false) (some (.agg #[.int .i64 (1 + bu % 1048576), .int .i64 (1 + ra % 2097152)])) none)), (12, (cond (S.getD 1 false) (some (.int .u16 n)) none)), (13, (cond (S.getD 2 false) (some (.int .i64 n)) none)), (14, (cond (S.getD 3 false) (some (.int .i64 (1 + n))) none)), (15, (cond (S.getD 4 false) (some (.pointer (some ⟨bb4, 1, none⟩))) none)), (16, (cond (S.getD 5 false) (some (.int .i64 (1 + ra % 2097152))) none)), (17, (cond (S.getD 6 false) (some (.int .u32 m)) none)), (18, (cond (S.getD 7 false) (some (.int .u32 (m % 524288))) none)), (19, (cond (S.getD 8 false) (some (.int .i64 (m % 524288))) none)), (20, (cond (S.getD 9 false) (some (.int .i64 (1 + ra % 2097152 + m % 524288))) none)), (21, (cond (S.getD 10 false) (some (.int .i64 (min 2097152 (1 + ra % 2097152 + m % 524288)))) none)), (22, (cond (S.getD 11 false) (some (.agg #[.int .i64 (1 + n), .int .i64 (min 2097152 (1 + ra % 2097152 + m % 524288))])) none))] a ∧ Mem w0.heap.size w0 [(2, (cond (S.getD 12 false) (some (.row bb2 23 #[.int .i64 (1 + bu % 1048576), .int .i64 (1 + ra % 2097152)])) (some (.row bb2 23 #[.int .i64 0, .int .i64 0])))), (3, (cond (S.getD 13 false) (some (.row bb3 23 #[.int .i64 (1 + n), .int .i64 (min 2097152 (1 + ra % 2097152 + m % 524288))])) (some (.row bb3 23 #[.int .i64 0, .int .i64 0])))), (4, some (.row bb4 23 #[.int .i64 (1 + bu % 1048576), .int .i64 (1 + ra % 2097152)]))] w) ?_ ?_ ?_
  · exact ⟨((((((((((((((((((Fr.nil hF).co hF (i := 22) (by kernel_rfl)).co hF (i := 21) (by kernel_rfl)).co hF (i := 20) (by kernel_rfl)).co hF (i := 19) (by kernel_rfl)).co hF (i := 18) (by kernel_rfl)).co hF (i := 17) (by kernel_rfl)).co hF (i := 16) (by kernel_rfl)).co hF (i := 15) (by kernel_rfl)).co hF (i := 14) (by kernel_rfl)).co hF (i := 13) (by kernel_rfl)).co hF (i := 12) (by kernel_rfl)).co hF (i := 11) (by kernel_rfl)).co hF (i := 8) (by kernel_rfl)).co hF (i := 7) (by kernel_rfl)).co hF (i := 6) (by kernel_rfl)).co hF (i := 2) (by kernel_rfl)).co hF (i := 1) (by kernel_rfl)), hM.drew.sub (((Sub.nil.co (k := 4) (by kernel_rfl)).co (k := 3) (by kernel_rfl)).co (k := 2) (by kernel_rfl))⟩
  · refine stC ?_ (stC ?_ (stC ?_ (stC ?_ (stC ?_ (stC ?_ (stC ?_ (stC ?_ (stC ?_ (stC ?_ (stC ?_ (stC ?_ (stC ?_ (stC ?_ (trivial))))))))))))))
    · intro s0 s1 s2 s3 s4 s5 s6 s7 s8 s9 s10 s11 s12 s13 hc hi hp a w hS
      obtain rfl : s0 = false := hi
      obtain ⟨hF, hM⟩ := hS
      refine eL 11 4 0 (v := .agg #[.int .i64 (1 + bu % 1048576), .int .i64 (1 + ra % 2097152)]) hF hM (by kernel_rfl) rfl rfl (by kernel_rfl) (by kernel_rfl) fun a w hF hM => ?_
      exact ⟨((hF.repl 5 (by kernel_rfl)).cast (by kernel_rfl)), (hM.cast (by kernel_rfl))⟩
    · intro s0 s1 s2 s3 s4 s5 s6 s7 s8 s9 s10 s11 s12 s13 hc hi hp a w hS
      obtain rfl : s1 = false := hi
      obtain ⟨hF, hM⟩ := hS
      refine eP 12 (v0 := .int .u16 n) (v := .int .u16 n) hF (by kernel_rfl) (fun _ => by kernel_rfl) rfl fun a hF => ?_
      exact ⟨((hF.repl 6 (by kernel_rfl)).cast (by kernel_rfl)), (hM.cast (by kernel_rfl))⟩
    · intro s0 s1 s2 s3 s4 s5 s6 s7 s8 s9 s10 s11 s12 s13 hc hi hp a w hS
      obtain rfl : s2 = false := hi
      obtain rfl : s1 = true := hp 1 (by kernel_rfl)
      obtain ⟨hF, hM⟩ := hS
      refine eP 13 (v0 := .int .i64 (IntKind.i64.wrap n)) (v := .int .i64 n) hF (by kernel_rfl) (fun _ => by kernel_rfl) (vi (IntWalk.i64_in _ (by omega))) fun a hF => ?_
      exact ⟨((hF.repl 7 (by kernel_rfl)).cast (by kernel_rfl)), (hM.cast (by kernel_rfl))⟩
    · intro s0 s1 s2 s3 s4 s5 s6 s7 s8 s9 s10 s11 s12 s13 hc hi hp a w hS
      obtain rfl : s3 = false := hi
      obtain rfl : s2 = true := hp 2 (by kernel_rfl)
      obtain ⟨hF, hM⟩ := hS
      refine eP 14 (v0 := .int .i64 (IntKind.i64.wrap (1 + n))) (v := .int .i64 (1 + n)) hF (by kernel_rfl) (fun _ => by kernel_rfl) (wi (by omega)) fun a hF => ?_
      exact ⟨((hF.repl 8 (by kernel_rfl)).cast (by kernel_rfl)), (hM.cast (by kernel_rfl))⟩
    · intro s0 s1 s2 s3 s4 s5 s6 s7 s8 s9 s10 s11 s12 s13 hc hi hp a w hS
      obtain rfl : s4 = false := hi
      obtain ⟨hF, hM⟩ := hS
      refine eP 15 (v0 := .pointer (some ⟨bb4, 1, none⟩)) (v := .pointer (some ⟨bb4, 1, none⟩)) hF (by kernel_rfl) (fun _ => by kernel_rfl) rfl fun a hF => ?_
      exact ⟨((hF.repl 9 (by kernel_rfl)).cast (by kernel_rfl)), (hM.cast (by kernel_rfl))⟩
    · intro s0 s1 s2 s3 s4 s5 s6 s7 s8 s9 s10 s11 s12 s13 hc hi hp a w hS
      obtain rfl : s5 = false := hi
      obtain rfl : s4 = true := hp 4 (by kernel_rfl)
      obtain ⟨hF, hM⟩ := hS
      refine eL 16 4 1 (v := .int .i64 (1 + ra % 2097152)) hF hM (by kernel_rfl) rfl rfl (by kernel_rfl) (by kernel_rfl) fun a w hF hM => ?_
      exact ⟨((hF.repl 10 (by kernel_rfl)).cast (by kernel_rfl)), (hM.cast (by kernel_rfl))⟩
    · intro s0 s1 s2 s3 s4 s5 s6 s7 s8 s9 s10 s11 s12 s13 hc hi hp a w hS
      obtain rfl : s6 = false := hi
      obtain ⟨hF, hM⟩ := hS
      refine eP 17 (v0 := .int .u32 m) (v := .int .u32 m) hF (by kernel_rfl) (fun _ => by kernel_rfl) rfl fun a hF => ?_
      exact ⟨((hF.repl 11 (by kernel_rfl)).cast (by kernel_rfl)), (hM.cast (by kernel_rfl))⟩
    · intro s0 s1 s2 s3 s4 s5 s6 s7 s8 s9 s10 s11 s12 s13 hc hi hp a w hS
      obtain rfl : s7 = false := hi
      obtain rfl : s6 = true := hp 6 (by kernel_rfl)
      obtain ⟨hF, hM⟩ := hS
      refine eM 18 (v := .int .u32 (m % 524288)) hF hM (by kernel_rfl) (yld_rem m 524288 hF rfl (by kernel_rfl) (by kernel_rfl) (by kernel_rfl) (by decide) (Int.tmod_eq_emod_of_nonneg (by omega))) fun a w hF hM => ?_
      exact ⟨((hF.repl 12 (by kernel_rfl)).cast (by kernel_rfl)), (hM.cast (by kernel_rfl))⟩
    · intro s0 s1 s2 s3 s4 s5 s6 s7 s8 s9 s10 s11 s12 s13 hc hi hp a w hS
      obtain rfl : s8 = false := hi
      obtain rfl : s7 = true := hp 7 (by kernel_rfl)
      obtain ⟨hF, hM⟩ := hS
      refine eP 19 (v0 := .int .i64 (IntKind.i64.wrap (m % 524288))) (v := .int .i64 (m % 524288)) hF (by kernel_rfl) (fun _ => by kernel_rfl) (vi (IntWalk.i64_in _ (by omega))) fun a hF => ?_
      exact ⟨((hF.repl 13 (by kernel_rfl)).cast (by kernel_rfl)), (hM.cast (by kernel_rfl))⟩
    · intro s0 s1 s2 s3 s4 s5 s6 s7 s8 s9 s10 s11 s12 s13 hc hi hp a w hS
      obtain rfl : s9 = false := hi
      obtain rfl : s8 = true := hp 8 (by kernel_rfl)
      obtain rfl : s5 = true := hp 5 (by kernel_rfl)
      obtain ⟨hF, hM⟩ := hS
      refine eP 20 (v0 := .int .i64 (IntKind.i64.wrap (1 + ra % 2097152 + m % 524288))) (v := .int .i64 (1 + ra % 2097152 + m % 524288)) hF (by kernel_rfl) (fun _ => by kernel_rfl) (wi (by omega)) fun a hF => ?_
      exact ⟨((hF.repl 14 (by kernel_rfl)).cast (by kernel_rfl)), (hM.cast (by kernel_rfl))⟩
    · intro s0 s1 s2 s3 s4 s5 s6 s7 s8 s9 s10 s11 s12 s13 hc hi hp a w hS
      obtain rfl : s10 = false := hi
      obtain rfl : s9 = true := hp 9 (by kernel_rfl)
      obtain ⟨hF, hM⟩ := hS
      refine eP 21 (v0 := .int .i64 (if 1 + ra % 2097152 + m % 524288 < 2097152 then 1 + ra % 2097152 + m % 524288 else 2097152)) (v := .int .i64 (min 2097152 (1 + ra % 2097152 + m % 524288))) hF (by kernel_rfl) (fun _ => by kernel_rfl) (vi (min_if _ _)) fun a hF => ?_
      exact ⟨((hF.repl 15 (by kernel_rfl)).cast (by kernel_rfl)), (hM.cast (by kernel_rfl))⟩
    · intro s0 s1 s2 s3 s4 s5 s6 s7 s8 s9 s10 s11 s12 s13 hc hi hp a w hS
      obtain rfl : s11 = false := hi
      obtain rfl : s10 = true := hp 10 (by kernel_rfl)
      obtain rfl : s3 = true := hp 3 (by kernel_rfl)
      obtain ⟨hF, hM⟩ := hS
      refine eP 22 (v0 := .agg #[.int .i64 (1 + n), .int .i64 (min 2097152 (1 + ra % 2097152 + m % 524288))]) (v := .agg #[.int .i64 (1 + n), .int .i64 (min 2097152 (1 + ra % 2097152 + m % 524288))]) hF (by kernel_rfl) (fun _ => by kernel_rfl) rfl fun a hF => ?_
      exact ⟨((hF.repl 16 (by kernel_rfl)).cast (by kernel_rfl)), (hM.cast (by kernel_rfl))⟩
    · intro s0 s1 s2 s3 s4 s5 s6 s7 s8 s9 s10 s11 s12 s13 hc hi hp a w hS
      obtain rfl : s12 = false := hi
      obtain rfl : s0 = true := hp 0 (by kernel_rfl)
      obtain ⟨hF, hM⟩ := hS
      refine sStore (i := 2) (off := 0) (cs' := #[.int .i64 (1 + bu % 1048576), .int .i64 (1 + ra % 2097152)]) hF hM (by kernel_rfl) rfl rfl (by kernel_rfl) (by kernel_rfl) rfl (by kernel_rfl) fun w hM => ?_
      exact ⟨(hF.cast (by kernel_rfl)), ((hM.repl 0 (by kernel_rfl)).cast (by kernel_rfl))⟩
    · intro s0 s1 s2 s3 s4 s5 s6 s7 s8 s9 s10 s11 s12 s13 hc hi hp a w hS
      obtain rfl : s13 = false := hi
      obtain rfl : s11 = true := hp 11 (by kernel_rfl)
      obtain ⟨hF, hM⟩ := hS
      refine sStore (i := 3) (off := 0) (cs' := #[.int .i64 (1 + n), .int .i64 (min 2097152 (1 + ra % 2097152 + m % 524288))]) hF hM (by kernel_rfl) rfl rfl (by kernel_rfl) (by kernel_rfl) rfl (by kernel_rfl) fun w hM => ?_
      exact ⟨(hF.cast (by kernel_rfl)), ((hM.repl 1 (by kernel_rfl)).cast (by kernel_rfl))⟩
  · intro a w hS
    obtain ⟨hF, hM⟩ := hS
    replace hF : Fr 23 [(1, some (.int .u16 n)), (2, some (.int .u32 m)), (6, some (.pointer (some ⟨bb2, 0, none⟩))), (7, some (.pointer (some ⟨bb3, 0, none⟩))), (8, some (.pointer (some ⟨bb4, 0, none⟩))), (11, some (.agg #[.int .i64 (1 + bu % 1048576), .int .i64 (1 + ra % 2097152)])), (12, some (.int .u16 n)), (13, some (.int .i64 n)), (14, some (.int .i64 (1 + n))), (15, some (.pointer (some ⟨bb4, 1, none⟩))), (16, some (.int .i64 (1 + ra % 2097152))), (17, some (.int .u32 m)), (18, some (.int .u32 (m % 524288))), (19, some (.int .i64 (m % 524288))), (20, some (.int .i64 (1 + ra % 2097152 + m % 524288))), (21, some (.int .i64 (min 2097152 (1 + ra % 2097152 + m % 524288)))), (22, some (.agg #[.int .i64 (1 + n), .int .i64 (min 2097152 (1 + ra % 2097152 + m % 524288))]))] a := hF.cast (by kernel_rfl)
    replace hM : Mem w0.heap.size w0 [(2, some (.row bb2 23 #[.int .i64 (1 + bu % 1048576), .int .i64 (1 + ra % 2097152)])), (3, some (.row bb3 23 #[.int .i64 (1 + n), .int .i64 (min 2097152 (1 + ra % 2097152 + m % 524288))])), (4, some (.row bb4 23 #[.int .i64 (1 + bu % 1048576), .int .i64 (1 + ra % 2097152)]))] w := hM.cast (by kernel_rfl)
    refine hK3 _ _ ?_
    refine wp_ret ?_
    refine hR0 _ _ ?_
    refine ret_of hF hM (.cell (i := 2) rfl rfl (v := .agg #[.int .i64 (1 + bu % 1048576), .int .i64 (1 + ra % 2097152)]) (by kernel_rfl) (.cell (i := 3) rfl rfl (v := .agg #[.int .i64 (1 + n), .int .i64 (min 2097152 (1 + ra % 2097152 + m % 524288))]) (by kernel_rfl) (.nil))) ?_
    exact ⟨rfl, hM.bel⟩

theorem near_w (cb cr pb ps la co pe : Int) (w0 : World) (h : 1 ≤ cb ∧ cb ≤ 1048576 ∧ 1 ≤ pb ∧ pb ≤ 1048576) :
    Calls Try.prog 10 #[.agg #[.int .i64 cb, .int .i64 cr], .agg #[.int .i64 pb, .int .i64 ps], .agg #[.int .i64 la, .int .i64 co, .int .i64 pe]] w0 (Ret w0 (.agg #[.int .i64 (la % 18446744073709551616 % 9999), .int .i64 (co % 18446744073709551616 % (cb * 1048576 + 1)), .int .i64 (pe % 18446744073709551616 % (pb * 1048576 + 1))])) := by
  refine enterK 33 Try.func10 rfl rfl rfl ?_
  intro a hF Q0 hR0 hN0
  have hM := Mem.start w0
  refine wp_seq_k fun K1 hK1 => ?_
  refine wp_region_lit ?_
  refine wl (eN 3 1 (t := 23) (fun b => .pointer (some ⟨b, 0, none⟩)) #[.int .i64 cb, .int .i64 cr] hF hM (by kernel_rfl) (fun _ => by kernel_rfl) fun bb1 a w hF hM => ?_)
  refine wl (eN 4 2 (t := 23) (fun b => .pointer (some ⟨b, 0, none⟩)) #[.int .i64 pb, .int .i64 ps] hF hM (by kernel_rfl) (fun _ => by kernel_rfl) fun bb2 a w hF hM => ?_)
  refine wl (eN 5 3 (t := 31) (fun b => .pointer (some ⟨b, 0, none⟩)) #[.int .i64 la, .int .i64 co, .int .i64 pe] hF hM (by kernel_rfl) (fun _ => by kernel_rfl) fun bb3 a w hF hM => ?_)
  refine wl (eN 6 4 (t := 31) (fun b => .pointer (some ⟨b, 0, none⟩)) #[.int .i64 0, .int .i64 0, .int .i64 0] hF hM (by kernel_rfl) (fun _ => by kernel_rfl) fun bb4 a w hF hM => ?_)
  refine wpList_nil ?_
  refine hK1 _ _ ?_
  refine wp_seq_k fun K2 hK2 => ?_
  refine rT 26 (by kernel_rfl) (by kernel_rfl) hM.drew ?_
  refine eQ 7 (v0 := .pointer (some ⟨bb3, 0, none⟩)) (v := .pointer (some ⟨bb3, 0, none⟩)) hF (by kernel_rfl) (fun _ => by kernel_rfl) rfl fun a hF => ?_
  refine eQL 8 3 0 (v := .int .i64 la) hF (by kernel_rfl) rfl rfl (by kernel_rfl) (by kernel_rfl) fun a hF => ?_
  refine eQ 9 (v0 := .int .u64 (IntKind.u64.wrap la)) (v := .int .u64 (la % 18446744073709551616)) hF (by kernel_rfl) (fun _ => by kernel_rfl) (vi (u64_wrap _)) fun a hF => ?_
  refine eQ2 10 (v := .int .u64 (la % 18446744073709551616 % 9999)) hF (by kernel_rfl) (yld_rem (la % 18446744073709551616) 9999 hF rfl (by kernel_rfl) (by kernel_rfl) (by kernel_rfl) (by decide) (Int.tmod_eq_emod_of_nonneg (by omega))) fun a hF => ?_
  refine eQ 11 (v0 := .int .i64 (IntKind.i64.wrap (la % 18446744073709551616 % 9999))) (v := .int .i64 (la % 18446744073709551616 % 9999)) hF (by kernel_rfl) (fun _ => by kernel_rfl) (vi (IntWalk.i64_in _ (by omega))) fun a hF => ?_
  refine eQ 12 (v0 := .pointer (some ⟨bb3, 1, none⟩)) (v := .pointer (some ⟨bb3, 1, none⟩)) hF (by kernel_rfl) (fun _ => by kernel_rfl) rfl fun a hF => ?_
  refine eQL 13 3 1 (v := .int .i64 co) hF (by kernel_rfl) rfl rfl (by kernel_rfl) (by kernel_rfl) fun a hF => ?_
  refine eQ 14 (v0 := .int .u64 (IntKind.u64.wrap co)) (v := .int .u64 (co % 18446744073709551616)) hF (by kernel_rfl) (fun _ => by kernel_rfl) (vi (u64_wrap _)) fun a hF => ?_
  refine eQ 15 (v0 := .pointer (some ⟨bb1, 0, none⟩)) (v := .pointer (some ⟨bb1, 0, none⟩)) hF (by kernel_rfl) (fun _ => by kernel_rfl) rfl fun a hF => ?_
  refine eQL 16 1 0 (v := .int .i64 cb) hF (by kernel_rfl) rfl rfl (by kernel_rfl) (by kernel_rfl) fun a hF => ?_
  refine eQ 17 (v0 := .int .i64 (IntKind.i64.wrap (cb * 1048576))) (v := .int .i64 (cb * 1048576)) hF (by kernel_rfl) (fun _ => by kernel_rfl) (wi (by omega)) fun a hF => ?_
  refine eQ 18 (v0 := .int .i64 (IntKind.i64.wrap (cb * 1048576 + 1))) (v := .int .i64 (cb * 1048576 + 1)) hF (by kernel_rfl) (fun _ => by kernel_rfl) (wi (by omega)) fun a hF => ?_
  refine eQ 19 (v0 := .int .u64 (IntKind.u64.wrap (cb * 1048576 + 1))) (v := .int .u64 (cb * 1048576 + 1)) hF (by kernel_rfl) (fun _ => by kernel_rfl) (vi (IntWalk.u64_in _ (by omega))) fun a hF => ?_
  refine eQ2 20 (v := .int .u64 (co % 18446744073709551616 % (cb * 1048576 + 1))) hF (by kernel_rfl) (yld_rem (co % 18446744073709551616) (cb * 1048576 + 1) hF rfl (by kernel_rfl) (by kernel_rfl) (by kernel_rfl) (by omega) (Int.tmod_eq_emod_of_nonneg (by omega))) fun a hF => ?_
  have := emod_bd (p := co % 18446744073709551616) (q := cb * 1048576 + 1) (by omega) (by omega)
  refine eQ 21 (v0 := .int .i64 (IntKind.i64.wrap (co % 18446744073709551616 % (cb * 1048576 + 1)))) (v := .int .i64 (co % 18446744073709551616 % (cb * 1048576 + 1))) hF (by kernel_rfl) (fun _ => by kernel_rfl) (vi (IntWalk.i64_in _ (by omega))) fun a hF => ?_
  refine eQ 22 (v0 := .pointer (some ⟨bb3, 2, none⟩)) (v := .pointer (some ⟨bb3, 2, none⟩)) hF (by kernel_rfl) (fun _ => by kernel_rfl) rfl fun a hF => ?_
  refine eQL 23 3 2 (v := .int .i64 pe) hF (by kernel_rfl) rfl rfl (by kernel_rfl) (by kernel_rfl) fun a hF => ?_
  refine eQ 24 (v0 := .int .u64 (IntKind.u64.wrap pe)) (v := .int .u64 (pe % 18446744073709551616)) hF (by kernel_rfl) (fun _ => by kernel_rfl) (vi (u64_wrap _)) fun a hF => ?_
  refine eQ 25 (v0 := .pointer (some ⟨bb2, 0, none⟩)) (v := .pointer (some ⟨bb2, 0, none⟩)) hF (by kernel_rfl) (fun _ => by kernel_rfl) rfl fun a hF => ?_
  refine eQL 26 2 0 (v := .int .i64 pb) hF (by kernel_rfl) rfl rfl (by kernel_rfl) (by kernel_rfl) fun a hF => ?_
  refine eQ 27 (v0 := .int .i64 (IntKind.i64.wrap (pb * 1048576))) (v := .int .i64 (pb * 1048576)) hF (by kernel_rfl) (fun _ => by kernel_rfl) (wi (by omega)) fun a hF => ?_
  refine eQ 28 (v0 := .int .i64 (IntKind.i64.wrap (pb * 1048576 + 1))) (v := .int .i64 (pb * 1048576 + 1)) hF (by kernel_rfl) (fun _ => by kernel_rfl) (wi (by omega)) fun a hF => ?_
  refine eQ 29 (v0 := .int .u64 (IntKind.u64.wrap (pb * 1048576 + 1))) (v := .int .u64 (pb * 1048576 + 1)) hF (by kernel_rfl) (fun _ => by kernel_rfl) (vi (IntWalk.u64_in _ (by omega))) fun a hF => ?_
  refine eQ2 30 (v := .int .u64 (pe % 18446744073709551616 % (pb * 1048576 + 1))) hF (by kernel_rfl) (yld_rem (pe % 18446744073709551616) (pb * 1048576 + 1) hF rfl (by kernel_rfl) (by kernel_rfl) (by kernel_rfl) (by omega) (Int.tmod_eq_emod_of_nonneg (by omega))) fun a hF => ?_
  have := emod_bd (p := pe % 18446744073709551616) (q := pb * 1048576 + 1) (by omega) (by omega)
  refine eQ 31 (v0 := .int .i64 (IntKind.i64.wrap (pe % 18446744073709551616 % (pb * 1048576 + 1)))) (v := .int .i64 (pe % 18446744073709551616 % (pb * 1048576 + 1))) hF (by kernel_rfl) (fun _ => by kernel_rfl) (vi (IntWalk.i64_in _ (by omega))) fun a hF => ?_
  refine eQ 32 (v0 := .agg #[.int .i64 (la % 18446744073709551616 % 9999), .int .i64 (co % 18446744073709551616 % (cb * 1048576 + 1)), .int .i64 (pe % 18446744073709551616 % (pb * 1048576 + 1))]) (v := .agg #[.int .i64 (la % 18446744073709551616 % 9999), .int .i64 (co % 18446744073709551616 % (cb * 1048576 + 1)), .int .i64 (pe % 18446744073709551616 % (pb * 1048576 + 1))]) hF (by kernel_rfl) (fun _ => by kernel_rfl) rfl fun a hF => ?_
  refine wpQuiet_nil ?_
  intro w hM
  refine wl (sStore (i := 4) (off := 0) (cs' := #[.int .i64 (la % 18446744073709551616 % 9999), .int .i64 (co % 18446744073709551616 % (cb * 1048576 + 1)), .int .i64 (pe % 18446744073709551616 % (pb * 1048576 + 1))]) hF hM (by kernel_rfl) rfl rfl (by kernel_rfl) (by kernel_rfl) rfl (by kernel_rfl) fun w hM => ?_)
  refine wpList_nil ?_
  refine hK2 _ _ ?_
  refine wp_ret ?_
  refine hR0 _ _ ?_
  refine ret_of hF hM (.cell (i := 4) rfl rfl (v := .agg #[.int .i64 (la % 18446744073709551616 % 9999), .int .i64 (co % 18446744073709551616 % (cb * 1048576 + 1)), .int .i64 (pe % 18446744073709551616 % (pb * 1048576 + 1))]) (by kernel_rfl) (.nil)) ?_
  exact ⟨rfl, hM.bel⟩

end Go.Proofs.Ytncllmponigkgaa
