/-
  The walk of RatField.
-/
import Derived.Test.YtboodcekjooehaaDoorRatF
namespace Go.Proofs.YtboodcekjooehaaDoor
open Go.RowKit
set_option linter.unusedVariables false
set_option linter.unusedSimpArgs false

set_option maxRecDepth 100000 in
set_option maxHeartbeats 8000000 in
theorem ratField_walk (n0 n1 n2 d0 d1 d2 : Int) (w0 : World) (hT : Tab w0) (h : -128 ≤ n0 ∧ n0 ≤ 127 ∧ 0 ≤ d0 ∧ d0 ≤ 255 ∧ -128 ≤ n1 ∧ n1 ≤ 127 ∧ 0 ≤ d1 ∧ d1 ≤ 255 ∧ -128 ≤ n2 ∧ n2 ≤ 127 ∧ 0 ≤ d2 ∧ d2 ≤ 255) :
    Calls Tryd.prog 5 #[.agg #[.int .i8 n0, .int .i8 n1, .int .i8 n2], .agg #[.int .u8 d0, .int .u8 d1, .int .u8 d2]] w0 (Ret w0 (.bool true)) := by
  obtain ⟨an, ad, ea1, ea2, sa⟩ := small_is (n := n0) (d := d0) (by omega)
  have sa' := sa
  unfold sm at sa'
  obtain ⟨bn, bd, eb1, eb2, sb⟩ := small_is (n := n1) (d := d1) (by omega)
  have sb' := sb
  unfold sm at sb'
  obtain ⟨cn, cd, ec1, ec2, sc⟩ := small_is (n := n2) (d := d2) (by omega)
  have sc' := sc
  unfold sm at sc'
  obtain ⟨sN, sD, lN, lD, uN, uD, xN, xD, pN, pD, zN, zD, gN, gD, kN, kD, i1, i2, i3, i4, i5, i6, i7, i8, i9, i10, i11, i12, i13, i14, i15⟩ := field_facts sa sb sc
  refine enterK 238 Tryd.func5 rfl rfl rfl ?_
  intro a hF Q0 hR0 hN0
  have hM := Mem.start w0
  have hz1 := raE_ok i3.2.2.2
  refine wp_seq_k fun K1 hK1 => ?_
  refine wp_region_lit ?_
  refine wl (eN 2 1 (t := 39) (fun b => .pointer (some ⟨b, 0, none⟩)) #[.int .i8 n0, .int .i8 n1, .int .i8 n2] hF hM (by kernel_rfl) (fun _ => by kernel_rfl) fun bb1 a w hF hM => ?_)
  refine wl (eN 3 2 (t := 40) (fun b => .pointer (some ⟨b, 0, none⟩)) #[.int .u8 d0, .int .u8 d1, .int .u8 d2] hF hM (by kernel_rfl) (fun _ => by kernel_rfl) fun bb2 a w hF hM => ?_)
  refine sB 1 [(4, .bool false)] hF (by kernel_rfl) fun a hF => ?_
  refine wpList_nil ?_
  refine hK1 _ _ ?_
  refine wp_seq_k fun K2 hK2 => ?_
  refine wp_seq_k fun K3 hK3 => ?_
  refine wp_region_lit ?_
  refine wl (eM 32 (v := .bool true) hF hM (by kernel_rfl) (yld_call (f := 14) (args := #[]) hF (by kernel_rfl) (fun _ => by kernel_rfl) (fun w hM => works_w w (hT.below (Nat.le_refl _) hM.bel))) fun a w hF hM => ?_)
  refine sB 1 [(33, .bool false)] hF (by kernel_rfl) fun a hF => ?_
  refine wpList_nil ?_
  refine hK3 _ _ ?_
  refine cF hF (by kernel_rfl) (by kernel_rfl) ?_
  refine wp_skip ?_
  refine hK2 _ _ ?_
  refine wp_seq_k fun K4 hK4 => ?_
  refine rF (by kernel_rfl) (by kernel_rfl) (fun S a w => ∃ bb3 : Nat, ∃ bb4 : Nat, ∃ bb5 : Nat, Fr 238 [(2, some (.pointer (some ⟨bb1, 0, none⟩))), (3, some (.pointer (some ⟨bb2, 0, none⟩))), (4, some (.bool false)), (5, (cond (S.getD 15 false) (some (.pointer (some ⟨bb3, 0, none⟩))) none)), (6, (cond (S.getD 16 false) (some (.pointer (some ⟨bb4, 0, none⟩))) none)), (7, (cond (S.getD 17 false) (some (.pointer (some ⟨bb5, 0, none⟩))) none)), (34, (cond (S.getD 0 false) (some (.pointer (some ⟨bb1, 0, none⟩))) none)), (35, (cond (S.getD 1 false) (some (.int .i8 n0)) none)), (36, (cond (S.getD 2 false) (some (.pointer (some ⟨bb2, 0, none⟩))) none)), (37, (cond (S.getD 3 false) (some (.int .u8 d0)) none)), (38, (cond (S.getD 4 false) (some (.agg #[.int .i64 an, .int .i64 ad])) none)), (39, (cond (S.getD 5 false) (some (.pointer (some ⟨bb1, 1, none⟩))) none)), (40, (cond (S.getD 6 false) (some (.int .i8 n1)) none)), (41, (cond (S.getD 7 false) (some (.pointer (some ⟨bb2, 1, none⟩))) none)), (42, (cond (S.getD 8 false) (some (.int .u8 d1)) none)), (43, (cond (S.getD 9 false) (some (.agg #[.int .i64 bn, .int .i64 bd])) none)), (44, (cond (S.getD 10 false) (some (.pointer (some ⟨bb1, 2, none⟩))) none)), (45, (cond (S.getD 11 false) (some (.int .i8 n2)) none)), (46, (cond (S.getD 12 false) (some (.pointer (some ⟨bb2, 2, none⟩))) none)), (47, (cond (S.getD 13 false) (some (.int .u8 d2)) none)), (48, (cond (S.getD 14 false) (some (.agg #[.int .i64 cn, .int .i64 cd])) none))] a ∧ Mem w0.heap.size w0 [(1, some (.row bb1 39 #[.int .i8 n0, .int .i8 n1, .int .i8 n2])), (2, some (.row bb2 40 #[.int .u8 d0, .int .u8 d1, .int .u8 d2])), (3, (cond (S.getD 18 false) (some (.row bb3 23 #[.int .i64 an, .int .i64 ad])) (cond (S.getD 15 false) (some (.row bb3 23 #[.int .i64 0, .int .i64 0])) none))), (4, (cond (S.getD 19 false) (some (.row bb4 23 #[.int .i64 bn, .int .i64 bd])) (cond (S.getD 16 false) (some (.row bb4 23 #[.int .i64 0, .int .i64 0])) none))), (5, (cond (S.getD 20 false) (some (.row bb5 23 #[.int .i64 cn, .int .i64 cd])) (cond (S.getD 17 false) (some (.row bb5 23 #[.int .i64 0, .int .i64 0])) none)))] w) ?_ ?_ ?_
  · exact ⟨0, 0, 0, ((((((((((((((((((((((Fr.nil hF).co hF (i := 48) (by kernel_rfl)).co hF (i := 47) (by kernel_rfl)).co hF (i := 46) (by kernel_rfl)).co hF (i := 45) (by kernel_rfl)).co hF (i := 44) (by kernel_rfl)).co hF (i := 43) (by kernel_rfl)).co hF (i := 42) (by kernel_rfl)).co hF (i := 41) (by kernel_rfl)).co hF (i := 40) (by kernel_rfl)).co hF (i := 39) (by kernel_rfl)).co hF (i := 38) (by kernel_rfl)).co hF (i := 37) (by kernel_rfl)).co hF (i := 36) (by kernel_rfl)).co hF (i := 35) (by kernel_rfl)).co hF (i := 34) (by kernel_rfl)).co hF (i := 7) (by kernel_rfl)).co hF (i := 6) (by kernel_rfl)).co hF (i := 5) (by kernel_rfl)).co hF (i := 4) (by kernel_rfl)).co hF (i := 3) (by kernel_rfl)).co hF (i := 2) (by kernel_rfl)), hM.drew.sub (((((Sub.nil.co (k := 5) (by kernel_rfl)).co (k := 4) (by kernel_rfl)).co (k := 3) (by kernel_rfl)).co (k := 2) (by kernel_rfl)).co (k := 1) (by kernel_rfl))⟩
  · refine stC ?_ (stC ?_ (stC ?_ (stC ?_ (stC ?_ (stC ?_ (stC ?_ (stC ?_ (stC ?_ (stC ?_ (stC ?_ (stC ?_ (stC ?_ (stC ?_ (stC ?_ (stC ?_ (stC ?_ (stC ?_ (stC ?_ (stC ?_ (stC ?_ (trivial)))))))))))))))))))))
    · intro s0 s1 s2 s3 s4 s5 s6 s7 s8 s9 s10 s11 s12 s13 s14 s15 s16 s17 s18 s19 s20 hc hi hp a w hS
      obtain rfl : s0 = false := hi
      obtain ⟨bb3, bb4, bb5, hF, hM⟩ := hS
      refine eP 34 (v0 := .pointer (some ⟨bb1, 0, none⟩)) (v := .pointer (some ⟨bb1, 0, none⟩)) hF (by kernel_rfl) (fun _ => by kernel_rfl) rfl fun a hF => ?_
      exact ⟨bb3, bb4, bb5, ((hF.repl 6 (by kernel_rfl)).cast (by kernel_rfl)), (hM.cast (by kernel_rfl))⟩
    · intro s0 s1 s2 s3 s4 s5 s6 s7 s8 s9 s10 s11 s12 s13 s14 s15 s16 s17 s18 s19 s20 hc hi hp a w hS
      obtain rfl : s1 = false := hi
      obtain rfl : s0 = true := hp 0 (by kernel_rfl)
      obtain ⟨bb3, bb4, bb5, hF, hM⟩ := hS
      refine eL 35 1 0 (v := .int .i8 n0) hF hM (by kernel_rfl) rfl rfl (by kernel_rfl) (by kernel_rfl) fun a w hF hM => ?_
      exact ⟨bb3, bb4, bb5, ((hF.repl 7 (by kernel_rfl)).cast (by kernel_rfl)), (hM.cast (by kernel_rfl))⟩
    · intro s0 s1 s2 s3 s4 s5 s6 s7 s8 s9 s10 s11 s12 s13 s14 s15 s16 s17 s18 s19 s20 hc hi hp a w hS
      obtain rfl : s2 = false := hi
      obtain ⟨bb3, bb4, bb5, hF, hM⟩ := hS
      refine eP 36 (v0 := .pointer (some ⟨bb2, 0, none⟩)) (v := .pointer (some ⟨bb2, 0, none⟩)) hF (by kernel_rfl) (fun _ => by kernel_rfl) rfl fun a hF => ?_
      exact ⟨bb3, bb4, bb5, ((hF.repl 8 (by kernel_rfl)).cast (by kernel_rfl)), (hM.cast (by kernel_rfl))⟩
    · intro s0 s1 s2 s3 s4 s5 s6 s7 s8 s9 s10 s11 s12 s13 s14 s15 s16 s17 s18 s19 s20 hc hi hp a w hS
      obtain rfl : s3 = false := hi
      obtain rfl : s2 = true := hp 2 (by kernel_rfl)
      obtain ⟨bb3, bb4, bb5, hF, hM⟩ := hS
      refine eL 37 2 0 (v := .int .u8 d0) hF hM (by kernel_rfl) rfl rfl (by kernel_rfl) (by kernel_rfl) fun a w hF hM => ?_
      exact ⟨bb3, bb4, bb5, ((hF.repl 9 (by kernel_rfl)).cast (by kernel_rfl)), (hM.cast (by kernel_rfl))⟩
    · intro s0 s1 s2 s3 s4 s5 s6 s7 s8 s9 s10 s11 s12 s13 s14 s15 s16 s17 s18 s19 s20 hc hi hp a w hS
      obtain rfl : s4 = false := hi
      obtain rfl : s3 = true := hp 3 (by kernel_rfl)
      obtain rfl : s1 = true := hp 1 (by kernel_rfl)
      obtain ⟨bb3, bb4, bb5, hF, hM⟩ := hS
      refine eM 38 (v := .agg #[.int .i64 an, .int .i64 ad]) hF hM (by kernel_rfl) (yld_call (f := 24) (args := #[.int .i8 n0, .int .u8 d0]) hF (by kernel_rfl) (fun _ => by kernel_rfl) (fun w hM => agg_to ea1 ea2 (small_w n0 d0 w (hT.below (Nat.le_refl _) hM.bel) (by omega)))) fun a w hF hM => ?_
      exact ⟨bb3, bb4, bb5, ((hF.repl 10 (by kernel_rfl)).cast (by kernel_rfl)), (hM.cast (by kernel_rfl))⟩
    · intro s0 s1 s2 s3 s4 s5 s6 s7 s8 s9 s10 s11 s12 s13 s14 s15 s16 s17 s18 s19 s20 hc hi hp a w hS
      obtain rfl : s5 = false := hi
      obtain ⟨bb3, bb4, bb5, hF, hM⟩ := hS
      refine eP 39 (v0 := .pointer (some ⟨bb1, 1, none⟩)) (v := .pointer (some ⟨bb1, 1, none⟩)) hF (by kernel_rfl) (fun _ => by kernel_rfl) rfl fun a hF => ?_
      exact ⟨bb3, bb4, bb5, ((hF.repl 11 (by kernel_rfl)).cast (by kernel_rfl)), (hM.cast (by kernel_rfl))⟩
    · intro s0 s1 s2 s3 s4 s5 s6 s7 s8 s9 s10 s11 s12 s13 s14 s15 s16 s17 s18 s19 s20 hc hi hp a w hS
      obtain rfl : s6 = false := hi
      obtain rfl : s5 = true := hp 5 (by kernel_rfl)
      obtain ⟨bb3, bb4, bb5, hF, hM⟩ := hS
      refine eL 40 1 1 (v := .int .i8 n1) hF hM (by kernel_rfl) rfl rfl (by kernel_rfl) (by kernel_rfl) fun a w hF hM => ?_
      exact ⟨bb3, bb4, bb5, ((hF.repl 12 (by kernel_rfl)).cast (by kernel_rfl)), (hM.cast (by kernel_rfl))⟩
    · intro s0 s1 s2 s3 s4 s5 s6 s7 s8 s9 s10 s11 s12 s13 s14 s15 s16 s17 s18 s19 s20 hc hi hp a w hS
      obtain rfl : s7 = false := hi
      obtain ⟨bb3, bb4, bb5, hF, hM⟩ := hS
      refine eP 41 (v0 := .pointer (some ⟨bb2, 1, none⟩)) (v := .pointer (some ⟨bb2, 1, none⟩)) hF (by kernel_rfl) (fun _ => by kernel_rfl) rfl fun a hF => ?_
      exact ⟨bb3, bb4, bb5, ((hF.repl 13 (by kernel_rfl)).cast (by kernel_rfl)), (hM.cast (by kernel_rfl))⟩
    · intro s0 s1 s2 s3 s4 s5 s6 s7 s8 s9 s10 s11 s12 s13 s14 s15 s16 s17 s18 s19 s20 hc hi hp a w hS
      obtain rfl : s8 = false := hi
      obtain rfl : s7 = true := hp 7 (by kernel_rfl)
      obtain ⟨bb3, bb4, bb5, hF, hM⟩ := hS
      refine eL 42 2 1 (v := .int .u8 d1) hF hM (by kernel_rfl) rfl rfl (by kernel_rfl) (by kernel_rfl) fun a w hF hM => ?_
      exact ⟨bb3, bb4, bb5, ((hF.repl 14 (by kernel_rfl)).cast (by kernel_rfl)), (hM.cast (by kernel_rfl))⟩
    · intro s0 s1 s2 s3 s4 s5 s6 s7 s8 s9 s10 s11 s12 s13 s14 s15 s16 s17 s18 s19 s20 hc hi hp a w hS
      obtain rfl : s9 = false := hi
      obtain rfl : s8 = true := hp 8 (by kernel_rfl)
      obtain rfl : s6 = true := hp 6 (by kernel_rfl)
      obtain ⟨bb3, bb4, bb5, hF, hM⟩ := hS
      refine eM 43 (v := .agg #[.int .i64 bn, .int .i64 bd]) hF hM (by kernel_rfl) (yld_call (f := 24) (args := #[.int .i8 n1, .int .u8 d1]) hF (by kernel_rfl) (fun _ => by kernel_rfl) (fun w hM => agg_to eb1 eb2 (small_w n1 d1 w (hT.below (Nat.le_refl _) hM.bel) (by omega)))) fun a w hF hM => ?_
      exact ⟨bb3, bb4, bb5, ((hF.repl 15 (by kernel_rfl)).cast (by kernel_rfl)), (hM.cast (by kernel_rfl))⟩
    · intro s0 s1 s2 s3 s4 s5 s6 s7 s8 s9 s10 s11 s12 s13 s14 s15 s16 s17 s18 s19 s20 hc hi hp a w hS
      obtain rfl : s10 = false := hi
      obtain ⟨bb3, bb4, bb5, hF, hM⟩ := hS
      refine eP 44 (v0 := .pointer (some ⟨bb1, 2, none⟩)) (v := .pointer (some ⟨bb1, 2, none⟩)) hF (by kernel_rfl) (fun _ => by kernel_rfl) rfl fun a hF => ?_
      exact ⟨bb3, bb4, bb5, ((hF.repl 16 (by kernel_rfl)).cast (by kernel_rfl)), (hM.cast (by kernel_rfl))⟩
    · intro s0 s1 s2 s3 s4 s5 s6 s7 s8 s9 s10 s11 s12 s13 s14 s15 s16 s17 s18 s19 s20 hc hi hp a w hS
      obtain rfl : s11 = false := hi
      obtain rfl : s10 = true := hp 10 (by kernel_rfl)
      obtain ⟨bb3, bb4, bb5, hF, hM⟩ := hS
      refine eL 45 1 2 (v := .int .i8 n2) hF hM (by kernel_rfl) rfl rfl (by kernel_rfl) (by kernel_rfl) fun a w hF hM => ?_
      exact ⟨bb3, bb4, bb5, ((hF.repl 17 (by kernel_rfl)).cast (by kernel_rfl)), (hM.cast (by kernel_rfl))⟩
    · intro s0 s1 s2 s3 s4 s5 s6 s7 s8 s9 s10 s11 s12 s13 s14 s15 s16 s17 s18 s19 s20 hc hi hp a w hS
      obtain rfl : s12 = false := hi
      obtain ⟨bb3, bb4, bb5, hF, hM⟩ := hS
      refine eP 46 (v0 := .pointer (some ⟨bb2, 2, none⟩)) (v := .pointer (some ⟨bb2, 2, none⟩)) hF (by kernel_rfl) (fun _ => by kernel_rfl) rfl fun a hF => ?_
      exact ⟨bb3, bb4, bb5, ((hF.repl 18 (by kernel_rfl)).cast (by kernel_rfl)), (hM.cast (by kernel_rfl))⟩
    · intro s0 s1 s2 s3 s4 s5 s6 s7 s8 s9 s10 s11 s12 s13 s14 s15 s16 s17 s18 s19 s20 hc hi hp a w hS
      obtain rfl : s13 = false := hi
      obtain rfl : s12 = true := hp 12 (by kernel_rfl)
      obtain ⟨bb3, bb4, bb5, hF, hM⟩ := hS
      refine eL 47 2 2 (v := .int .u8 d2) hF hM (by kernel_rfl) rfl rfl (by kernel_rfl) (by kernel_rfl) fun a w hF hM => ?_
      exact ⟨bb3, bb4, bb5, ((hF.repl 19 (by kernel_rfl)).cast (by kernel_rfl)), (hM.cast (by kernel_rfl))⟩
    · intro s0 s1 s2 s3 s4 s5 s6 s7 s8 s9 s10 s11 s12 s13 s14 s15 s16 s17 s18 s19 s20 hc hi hp a w hS
      obtain rfl : s14 = false := hi
      obtain rfl : s13 = true := hp 13 (by kernel_rfl)
      obtain rfl : s11 = true := hp 11 (by kernel_rfl)
      obtain ⟨bb3, bb4, bb5, hF, hM⟩ := hS
      refine eM 48 (v := .agg #[.int .i64 cn, .int .i64 cd]) hF hM (by kernel_rfl) (yld_call (f := 24) (args := #[.int .i8 n2, .int .u8 d2]) hF (by kernel_rfl) (fun _ => by kernel_rfl) (fun w hM => agg_to ec1 ec2 (small_w n2 d2 w (hT.below (Nat.le_refl _) hM.bel) (by omega)))) fun a w hF hM => ?_
      exact ⟨bb3, bb4, bb5, ((hF.repl 20 (by kernel_rfl)).cast (by kernel_rfl)), (hM.cast (by kernel_rfl))⟩
    · intro s0 s1 s2 s3 s4 s5 s6 s7 s8 s9 s10 s11 s12 s13 s14 s15 s16 s17 s18 s19 s20 hc hi hp a w hS
      obtain rfl : s15 = false := hi
      obtain rfl : s18 = false := hc.f 18 15 (by kernel_rfl) rfl
      obtain ⟨bb3, bb4, bb5, hF, hM⟩ := hS
      refine eN 5 3 (t := 23) (fun b => .pointer (some ⟨b, 0, none⟩)) #[.int .i64 0, .int .i64 0] hF hM (by kernel_rfl) (fun _ => by kernel_rfl) fun bb3 a w hF hM => ?_
      exact ⟨bb3, bb4, bb5, ((hF.repl 3 (by kernel_rfl)).cast (by kernel_rfl)), ((hM.repl 2 (by kernel_rfl)).cast (by kernel_rfl))⟩
    · intro s0 s1 s2 s3 s4 s5 s6 s7 s8 s9 s10 s11 s12 s13 s14 s15 s16 s17 s18 s19 s20 hc hi hp a w hS
      obtain rfl : s16 = false := hi
      obtain rfl : s19 = false := hc.f 19 16 (by kernel_rfl) rfl
      obtain ⟨bb3, bb4, bb5, hF, hM⟩ := hS
      refine eN 6 4 (t := 23) (fun b => .pointer (some ⟨b, 0, none⟩)) #[.int .i64 0, .int .i64 0] hF hM (by kernel_rfl) (fun _ => by kernel_rfl) fun bb4 a w hF hM => ?_
      exact ⟨bb3, bb4, bb5, ((hF.repl 4 (by kernel_rfl)).cast (by kernel_rfl)), ((hM.repl 3 (by kernel_rfl)).cast (by kernel_rfl))⟩
    · intro s0 s1 s2 s3 s4 s5 s6 s7 s8 s9 s10 s11 s12 s13 s14 s15 s16 s17 s18 s19 s20 hc hi hp a w hS
      obtain rfl : s17 = false := hi
      obtain rfl : s20 = false := hc.f 20 17 (by kernel_rfl) rfl
      obtain ⟨bb3, bb4, bb5, hF, hM⟩ := hS
      refine eN 7 5 (t := 23) (fun b => .pointer (some ⟨b, 0, none⟩)) #[.int .i64 0, .int .i64 0] hF hM (by kernel_rfl) (fun _ => by kernel_rfl) fun bb5 a w hF hM => ?_
      exact ⟨bb3, bb4, bb5, ((hF.repl 5 (by kernel_rfl)).cast (by kernel_rfl)), ((hM.repl 4 (by kernel_rfl)).cast (by kernel_rfl))⟩
    · intro s0 s1 s2 s3 s4 s5 s6 s7 s8 s9 s10 s11 s12 s13 s14 s15 s16 s17 s18 s19 s20 hc hi hp a w hS
      obtain rfl : s18 = false := hi
      obtain rfl : s15 = true := hp 15 (by kernel_rfl)
      obtain rfl : s4 = true := hp 4 (by kernel_rfl)
      obtain ⟨bb3, bb4, bb5, hF, hM⟩ := hS
      refine sStore (i := 3) (off := 0) (cs' := #[.int .i64 an, .int .i64 ad]) hF hM (by kernel_rfl) rfl rfl (by kernel_rfl) (by kernel_rfl) rfl (by kernel_rfl) fun w hM => ?_
      exact ⟨bb3, bb4, bb5, (hF.cast (by kernel_rfl)), ((hM.repl 2 (by kernel_rfl)).cast (by kernel_rfl))⟩
    · intro s0 s1 s2 s3 s4 s5 s6 s7 s8 s9 s10 s11 s12 s13 s14 s15 s16 s17 s18 s19 s20 hc hi hp a w hS
      obtain rfl : s19 = false := hi
      obtain rfl : s16 = true := hp 16 (by kernel_rfl)
      obtain rfl : s9 = true := hp 9 (by kernel_rfl)
      obtain ⟨bb3, bb4, bb5, hF, hM⟩ := hS
      refine sStore (i := 4) (off := 0) (cs' := #[.int .i64 bn, .int .i64 bd]) hF hM (by kernel_rfl) rfl rfl (by kernel_rfl) (by kernel_rfl) rfl (by kernel_rfl) fun w hM => ?_
      exact ⟨bb3, bb4, bb5, (hF.cast (by kernel_rfl)), ((hM.repl 3 (by kernel_rfl)).cast (by kernel_rfl))⟩
    · intro s0 s1 s2 s3 s4 s5 s6 s7 s8 s9 s10 s11 s12 s13 s14 s15 s16 s17 s18 s19 s20 hc hi hp a w hS
      obtain rfl : s20 = false := hi
      obtain rfl : s17 = true := hp 17 (by kernel_rfl)
      obtain rfl : s14 = true := hp 14 (by kernel_rfl)
      obtain ⟨bb3, bb4, bb5, hF, hM⟩ := hS
      refine sStore (i := 5) (off := 0) (cs' := #[.int .i64 cn, .int .i64 cd]) hF hM (by kernel_rfl) rfl rfl (by kernel_rfl) (by kernel_rfl) rfl (by kernel_rfl) fun w hM => ?_
      exact ⟨bb3, bb4, bb5, (hF.cast (by kernel_rfl)), ((hM.repl 4 (by kernel_rfl)).cast (by kernel_rfl))⟩
  · intro a w hS
    obtain ⟨bb3, bb4, bb5, hF, hM⟩ := hS
    replace hF : Fr 238 [(2, some (.pointer (some ⟨bb1, 0, none⟩))), (3, some (.pointer (some ⟨bb2, 0, none⟩))), (4, some (.bool false)), (5, some (.pointer (some ⟨bb3, 0, none⟩))), (6, some (.pointer (some ⟨bb4, 0, none⟩))), (7, some (.pointer (some ⟨bb5, 0, none⟩))), (34, some (.pointer (some ⟨bb1, 0, none⟩))), (35, some (.int .i8 n0)), (36, some (.pointer (some ⟨bb2, 0, none⟩))), (37, some (.int .u8 d0)), (38, some (.agg #[.int .i64 an, .int .i64 ad])), (39, some (.pointer (some ⟨bb1, 1, none⟩))), (40, some (.int .i8 n1)), (41, some (.pointer (some ⟨bb2, 1, none⟩))), (42, some (.int .u8 d1)), (43, some (.agg #[.int .i64 bn, .int .i64 bd])), (44, some (.pointer (some ⟨bb1, 2, none⟩))), (45, some (.int .i8 n2)), (46, some (.pointer (some ⟨bb2, 2, none⟩))), (47, some (.int .u8 d2)), (48, some (.agg #[.int .i64 cn, .int .i64 cd]))] a := hF.cast (by kernel_rfl)
    replace hM : Mem w0.heap.size w0 [(1, some (.row bb1 39 #[.int .i8 n0, .int .i8 n1, .int .i8 n2])), (2, some (.row bb2 40 #[.int .u8 d0, .int .u8 d1, .int .u8 d2])), (3, some (.row bb3 23 #[.int .i64 an, .int .i64 ad])), (4, some (.row bb4 23 #[.int .i64 bn, .int .i64 bd])), (5, some (.row bb5 23 #[.int .i64 cn, .int .i64 cd]))] w := hM.cast (by kernel_rfl)
    refine hK4 _ _ ?_
    refine wp_seq_k fun K5 hK5 => ?_
    refine wp_region_lit ?_
    refine wl (eL 50 3 0 (v := .agg #[.int .i64 an, .int .i64 ad]) hF hM (by kernel_rfl) rfl rfl (by kernel_rfl) (by kernel_rfl) fun a w hF hM => ?_)
    refine wl (eL 51 4 0 (v := .agg #[.int .i64 bn, .int .i64 bd]) hF hM (by kernel_rfl) rfl rfl (by kernel_rfl) (by kernel_rfl) fun a w hF hM => ?_)
    refine wl (eM 52 (v := .tuple #[.agg #[.int .i64 sN, .int .i64 sD], .int .i64 0]) hF hM (by kernel_rfl) (yld_call (f := 16) (args := #[.agg #[.int .i64 an, .int .i64 ad], .agg #[.int .i64 bn, .int .i64 bd]]) hF (by kernel_rfl) (fun _ => by kernel_rfl) (fun w hM => i1.to (raAdd_ok an ad bn bd w (hT.below (Nat.le_refl _) hM.bel) sa.1 sb.1))) fun a w hF hM => ?_)
    refine sB 3 [(49, .tuple #[.agg #[.int .i64 sN, .int .i64 sD], .int .i64 0]), (53, .agg #[.int .i64 sN, .int .i64 sD]), (54, .int .i64 0)] hF (by kernel_rfl) fun a hF => ?_
    refine wl (eN 8 6 (t := 23) (fun b => .pointer (some ⟨b, 0, none⟩)) #[.int .i64 0, .int .i64 0] hF hM (by kernel_rfl) (fun _ => by kernel_rfl) fun bb6 a w hF hM => ?_)
    refine wl (sStore (i := 6) (off := 0) (cs' := #[.int .i64 sN, .int .i64 sD]) hF hM (by kernel_rfl) rfl rfl (by kernel_rfl) (by kernel_rfl) rfl (by kernel_rfl) fun w hM => ?_)
    refine sB 1 [(9, .int .i64 0)] hF (by kernel_rfl) fun a hF => ?_
    refine wpList_nil ?_
    refine hK5 _ _ ?_
    refine wp_seq_k fun K6 hK6 => ?_
    refine wp_region_lit ?_
    refine wl (eL 56 4 0 (v := .agg #[.int .i64 bn, .int .i64 bd]) hF hM (by kernel_rfl) rfl rfl (by kernel_rfl) (by kernel_rfl) fun a w hF hM => ?_)
    refine wl (eL 57 3 0 (v := .agg #[.int .i64 an, .int .i64 ad]) hF hM (by kernel_rfl) rfl rfl (by kernel_rfl) (by kernel_rfl) fun a w hF hM => ?_)
    refine wl (eM 58 (v := .tuple #[.agg #[.int .i64 sN, .int .i64 sD], .int .i64 0]) hF hM (by kernel_rfl) (yld_call (f := 16) (args := #[.agg #[.int .i64 bn, .int .i64 bd], .agg #[.int .i64 an, .int .i64 ad]]) hF (by kernel_rfl) (fun _ => by kernel_rfl) (fun w hM => i2.to (raAdd_ok bn bd an ad w (hT.below (Nat.le_refl _) hM.bel) sb.1 sa.1))) fun a w hF hM => ?_)
    refine sB 3 [(55, .tuple #[.agg #[.int .i64 sN, .int .i64 sD], .int .i64 0]), (59, .agg #[.int .i64 sN, .int .i64 sD]), (60, .int .i64 0)] hF (by kernel_rfl) fun a hF => ?_
    refine wl (eN 10 7 (t := 23) (fun b => .pointer (some ⟨b, 0, none⟩)) #[.int .i64 0, .int .i64 0] hF hM (by kernel_rfl) (fun _ => by kernel_rfl) fun bb7 a w hF hM => ?_)
    refine wl (sStore (i := 7) (off := 0) (cs' := #[.int .i64 sN, .int .i64 sD]) hF hM (by kernel_rfl) rfl rfl (by kernel_rfl) (by kernel_rfl) rfl (by kernel_rfl) fun w hM => ?_)
    refine sB 1 [(11, .int .i64 0)] hF (by kernel_rfl) fun a hF => ?_
    refine wpList_nil ?_
    refine hK6 _ _ ?_
    refine wp_seq_k fun K7 hK7 => ?_
    refine wp_region_lit ?_
    refine wl (eL 62 6 0 (v := .agg #[.int .i64 sN, .int .i64 sD]) hF hM (by kernel_rfl) rfl rfl (by kernel_rfl) (by kernel_rfl) fun a w hF hM => ?_)
    refine wl (eL 63 5 0 (v := .agg #[.int .i64 cn, .int .i64 cd]) hF hM (by kernel_rfl) rfl rfl (by kernel_rfl) (by kernel_rfl) fun a w hF hM => ?_)
    refine wl (eM 64 (v := .tuple #[.agg #[.int .i64 lN, .int .i64 lD], .int .i64 0]) hF hM (by kernel_rfl) (yld_call (f := 16) (args := #[.agg #[.int .i64 sN, .int .i64 sD], .agg #[.int .i64 cn, .int .i64 cd]]) hF (by kernel_rfl) (fun _ => by kernel_rfl) (fun w hM => i3.to (raAdd_ok sN sD cn cd w (hT.below (Nat.le_refl _) hM.bel) i1.2.2.2 sc.1))) fun a w hF hM => ?_)
    refine sB 3 [(61, .tuple #[.agg #[.int .i64 lN, .int .i64 lD], .int .i64 0]), (65, .agg #[.int .i64 lN, .int .i64 lD]), (66, .int .i64 0)] hF (by kernel_rfl) fun a hF => ?_
    refine wl (eN 12 8 (t := 23) (fun b => .pointer (some ⟨b, 0, none⟩)) #[.int .i64 0, .int .i64 0] hF hM (by kernel_rfl) (fun _ => by kernel_rfl) fun bb8 a w hF hM => ?_)
    refine wl (sStore (i := 8) (off := 0) (cs' := #[.int .i64 lN, .int .i64 lD]) hF hM (by kernel_rfl) rfl rfl (by kernel_rfl) (by kernel_rfl) rfl (by kernel_rfl) fun w hM => ?_)
    refine sB 1 [(13, .int .i64 0)] hF (by kernel_rfl) fun a hF => ?_
    refine wpList_nil ?_
    refine hK7 _ _ ?_
    refine wp_seq_k fun K8 hK8 => ?_
    refine wp_region_lit ?_
    refine wl (eL 68 4 0 (v := .agg #[.int .i64 bn, .int .i64 bd]) hF hM (by kernel_rfl) rfl rfl (by kernel_rfl) (by kernel_rfl) fun a w hF hM => ?_)
    refine wl (eL 69 5 0 (v := .agg #[.int .i64 cn, .int .i64 cd]) hF hM (by kernel_rfl) rfl rfl (by kernel_rfl) (by kernel_rfl) fun a w hF hM => ?_)
    refine wl (eM 70 (v := .tuple #[.agg #[.int .i64 uN, .int .i64 uD], .int .i64 0]) hF hM (by kernel_rfl) (yld_call (f := 16) (args := #[.agg #[.int .i64 bn, .int .i64 bd], .agg #[.int .i64 cn, .int .i64 cd]]) hF (by kernel_rfl) (fun _ => by kernel_rfl) (fun w hM => i4.to (raAdd_ok bn bd cn cd w (hT.below (Nat.le_refl _) hM.bel) sb.1 sc.1))) fun a w hF hM => ?_)
    refine sB 3 [(67, .tuple #[.agg #[.int .i64 uN, .int .i64 uD], .int .i64 0]), (71, .agg #[.int .i64 uN, .int .i64 uD]), (72, .int .i64 0)] hF (by kernel_rfl) fun a hF => ?_
    refine wl (eN 14 9 (t := 23) (fun b => .pointer (some ⟨b, 0, none⟩)) #[.int .i64 0, .int .i64 0] hF hM (by kernel_rfl) (fun _ => by kernel_rfl) fun bb9 a w hF hM => ?_)
    refine wl (sStore (i := 9) (off := 0) (cs' := #[.int .i64 uN, .int .i64 uD]) hF hM (by kernel_rfl) rfl rfl (by kernel_rfl) (by kernel_rfl) rfl (by kernel_rfl) fun w hM => ?_)
    refine sB 1 [(15, .int .i64 0)] hF (by kernel_rfl) fun a hF => ?_
    refine wpList_nil ?_
    refine hK8 _ _ ?_
    refine wp_seq_k fun K9 hK9 => ?_
    refine wp_region_lit ?_
    refine wl (eL 74 3 0 (v := .agg #[.int .i64 an, .int .i64 ad]) hF hM (by kernel_rfl) rfl rfl (by kernel_rfl) (by kernel_rfl) fun a w hF hM => ?_)
    refine wl (eL 75 9 0 (v := .agg #[.int .i64 uN, .int .i64 uD]) hF hM (by kernel_rfl) rfl rfl (by kernel_rfl) (by kernel_rfl) fun a w hF hM => ?_)
    refine wl (eM 76 (v := .tuple #[.agg #[.int .i64 lN, .int .i64 lD], .int .i64 0]) hF hM (by kernel_rfl) (yld_call (f := 16) (args := #[.agg #[.int .i64 an, .int .i64 ad], .agg #[.int .i64 uN, .int .i64 uD]]) hF (by kernel_rfl) (fun _ => by kernel_rfl) (fun w hM => i5.to (raAdd_ok an ad uN uD w (hT.below (Nat.le_refl _) hM.bel) sa.1 i4.2.2.2))) fun a w hF hM => ?_)
    refine sB 3 [(73, .tuple #[.agg #[.int .i64 lN, .int .i64 lD], .int .i64 0]), (77, .agg #[.int .i64 lN, .int .i64 lD]), (78, .int .i64 0)] hF (by kernel_rfl) fun a hF => ?_
    refine wl (eN 16 10 (t := 23) (fun b => .pointer (some ⟨b, 0, none⟩)) #[.int .i64 0, .int .i64 0] hF hM (by kernel_rfl) (fun _ => by kernel_rfl) fun bb10 a w hF hM => ?_)
    refine wl (sStore (i := 10) (off := 0) (cs' := #[.int .i64 lN, .int .i64 lD]) hF hM (by kernel_rfl) rfl rfl (by kernel_rfl) (by kernel_rfl) rfl (by kernel_rfl) fun w hM => ?_)
    refine sB 1 [(17, .int .i64 0)] hF (by kernel_rfl) fun a hF => ?_
    refine wpList_nil ?_
    refine hK9 _ _ ?_
    refine wp_seq_k fun K10 hK10 => ?_
    refine wp_region_lit ?_
    refine wl (eL 80 6 0 (v := .agg #[.int .i64 sN, .int .i64 sD]) hF hM (by kernel_rfl) rfl rfl (by kernel_rfl) (by kernel_rfl) fun a w hF hM => ?_)
    refine wl (eL 81 4 0 (v := .agg #[.int .i64 bn, .int .i64 bd]) hF hM (by kernel_rfl) rfl rfl (by kernel_rfl) (by kernel_rfl) fun a w hF hM => ?_)
    refine wl (eM 82 (v := .tuple #[.agg #[.int .i64 an, .int .i64 ad], .int .i64 0]) hF hM (by kernel_rfl) (yld_call (f := 18) (args := #[.agg #[.int .i64 sN, .int .i64 sD], .agg #[.int .i64 bn, .int .i64 bd]]) hF (by kernel_rfl) (fun _ => by kernel_rfl) (fun w hM => i6.to (raSub_ok sN sD bn bd w (hT.below (Nat.le_refl _) hM.bel) i1.2.2.2 sb.1))) fun a w hF hM => ?_)
    refine sB 3 [(79, .tuple #[.agg #[.int .i64 an, .int .i64 ad], .int .i64 0]), (83, .agg #[.int .i64 an, .int .i64 ad]), (84, .int .i64 0)] hF (by kernel_rfl) fun a hF => ?_
    refine wl (eN 18 11 (t := 23) (fun b => .pointer (some ⟨b, 0, none⟩)) #[.int .i64 0, .int .i64 0] hF hM (by kernel_rfl) (fun _ => by kernel_rfl) fun bb11 a w hF hM => ?_)
    refine wl (sStore (i := 11) (off := 0) (cs' := #[.int .i64 an, .int .i64 ad]) hF hM (by kernel_rfl) rfl rfl (by kernel_rfl) (by kernel_rfl) rfl (by kernel_rfl) fun w hM => ?_)
    refine sB 1 [(19, .int .i64 0)] hF (by kernel_rfl) fun a hF => ?_
    refine wpList_nil ?_
    refine hK10 _ _ ?_
    refine wp_seq_k fun K11 hK11 => ?_
    refine wp_seq_k fun K12 hK12 => ?_
    refine wp_region_lit ?_
    refine sB 1 [(85, .int .i64 0)] hF (by kernel_rfl) fun a hF => ?_
    refine wl (eP 86 (v0 := .bool (!decide (0 = 0))) (v := .bool false) hF (by kernel_rfl) (fun _ => by kernel_rfl) (nT (by omega)) fun a hF => ?_)
    refine sB 2 [(87, .bool false), (88, .int .i64 0)] hF (by kernel_rfl) fun a hF => ?_
    refine wl (eP 89 (v0 := .bool (!decide (0 = 0))) (v := .bool false) hF (by kernel_rfl) (fun _ => by kernel_rfl) (nT (by omega)) fun a hF => ?_)
    refine sB 3 [(90, .bool false), (91, .bool false), (92, .int .i64 0)] hF (by kernel_rfl) fun a hF => ?_
    refine wl (eP 93 (v0 := .bool (!decide (0 = 0))) (v := .bool false) hF (by kernel_rfl) (fun _ => by kernel_rfl) (nT (by omega)) fun a hF => ?_)
    refine sB 3 [(94, .bool false), (95, .bool false), (96, .int .i64 0)] hF (by kernel_rfl) fun a hF => ?_
    refine wl (eP 97 (v0 := .bool (!decide (0 = 0))) (v := .bool false) hF (by kernel_rfl) (fun _ => by kernel_rfl) (nT (by omega)) fun a hF => ?_)
    refine sB 3 [(98, .bool false), (99, .bool false), (100, .int .i64 0)] hF (by kernel_rfl) fun a hF => ?_
    refine wl (eP 101 (v0 := .bool (!decide (0 = 0))) (v := .bool false) hF (by kernel_rfl) (fun _ => by kernel_rfl) (nT (by omega)) fun a hF => ?_)
    refine sB 3 [(102, .bool false), (103, .bool false), (104, .int .i64 0)] hF (by kernel_rfl) fun a hF => ?_
    refine wl (eP 105 (v0 := .bool (!decide (0 = 0))) (v := .bool false) hF (by kernel_rfl) (fun _ => by kernel_rfl) (nT (by omega)) fun a hF => ?_)
    refine sB 2 [(106, .bool false), (107, .bool false)] hF (by kernel_rfl) fun a hF => ?_
    refine wl (eL 108 6 0 (v := .agg #[.int .i64 sN, .int .i64 sD]) hF hM (by kernel_rfl) rfl rfl (by kernel_rfl) (by kernel_rfl) fun a w hF hM => ?_)
    refine wl (eL 109 7 0 (v := .agg #[.int .i64 sN, .int .i64 sD]) hF hM (by kernel_rfl) rfl rfl (by kernel_rfl) (by kernel_rfl) fun a w hF hM => ?_)
    refine wl (eM 110 (v := .bool false) hF hM (by kernel_rfl) ((yld_neq (C := Mem _ _ _) [sN, sD] [sN, sD] hF rfl (by kernel_rfl) (by kernel_rfl) (by kernel_rfl) rfl (by kernel_rfl) (by kernel_rfl) (by kernel_rfl) rfl rfl).to (nT rfl)) fun a w hF hM => ?_)
    refine sB 2 [(111, .bool false), (112, .bool false)] hF (by kernel_rfl) fun a hF => ?_
    refine wl (eL 113 8 0 (v := .agg #[.int .i64 lN, .int .i64 lD]) hF hM (by kernel_rfl) rfl rfl (by kernel_rfl) (by kernel_rfl) fun a w hF hM => ?_)
    refine wl (eL 114 10 0 (v := .agg #[.int .i64 lN, .int .i64 lD]) hF hM (by kernel_rfl) rfl rfl (by kernel_rfl) (by kernel_rfl) fun a w hF hM => ?_)
    refine wl (eM 115 (v := .bool false) hF hM (by kernel_rfl) ((yld_neq (C := Mem _ _ _) [lN, lD] [lN, lD] hF rfl (by kernel_rfl) (by kernel_rfl) (by kernel_rfl) rfl (by kernel_rfl) (by kernel_rfl) (by kernel_rfl) rfl rfl).to (nT rfl)) fun a w hF hM => ?_)
    refine sB 2 [(116, .bool false), (117, .bool false)] hF (by kernel_rfl) fun a hF => ?_
    refine wl (eL 118 11 0 (v := .agg #[.int .i64 an, .int .i64 ad]) hF hM (by kernel_rfl) rfl rfl (by kernel_rfl) (by kernel_rfl) fun a w hF hM => ?_)
    refine wl (eL 119 3 0 (v := .agg #[.int .i64 an, .int .i64 ad]) hF hM (by kernel_rfl) rfl rfl (by kernel_rfl) (by kernel_rfl) fun a w hF hM => ?_)
    refine wl (eM 120 (v := .bool false) hF hM (by kernel_rfl) ((yld_neq (C := Mem _ _ _) [an, ad] [an, ad] hF rfl (by kernel_rfl) (by kernel_rfl) (by kernel_rfl) rfl (by kernel_rfl) (by kernel_rfl) (by kernel_rfl) rfl rfl).to (nT rfl)) fun a w hF hM => ?_)
    refine sB 2 [(121, .bool false), (122, .bool false)] hF (by kernel_rfl) fun a hF => ?_
    refine wl (eL 123 8 0 (v := .agg #[.int .i64 lN, .int .i64 lD]) hF hM (by kernel_rfl) rfl rfl (by kernel_rfl) (by kernel_rfl) fun a w hF hM => ?_)
    refine wl (eM 124 (v := .int .i64 (raE lN lD)) hF hM (by kernel_rfl) (yld_call (f := 12) (args := #[.agg #[.int .i64 lN, .int .i64 lD]]) hF (by kernel_rfl) (fun _ => by kernel_rfl) (fun w hM => raCheck_w lN lD w (hT.below (Nat.le_refl _) hM.bel))) fun a w hF hM => ?_)
    refine wl (eP 125 (v0 := .bool (!decide (raE lN lD = 0))) (v := .bool false) hF (by kernel_rfl) (fun _ => by kernel_rfl) (nT i3.2.2.2) fun a hF => ?_)
    refine sB 1 [(126, .bool false)] hF (by kernel_rfl) fun a hF => ?_
    refine wpList_nil ?_
    refine hK12 _ _ ?_
    refine cF hF (by kernel_rfl) (by kernel_rfl) ?_
    refine wp_skip ?_
    refine hK11 _ _ ?_
    refine wp_seq_k fun K13 hK13 => ?_
    refine wp_region_lit ?_
    refine wl (eL 128 3 0 (v := .agg #[.int .i64 an, .int .i64 ad]) hF hM (by kernel_rfl) rfl rfl (by kernel_rfl) (by kernel_rfl) fun a w hF hM => ?_)
    refine wl (eL 129 4 0 (v := .agg #[.int .i64 bn, .int .i64 bd]) hF hM (by kernel_rfl) rfl rfl (by kernel_rfl) (by kernel_rfl) fun a w hF hM => ?_)
    refine wl (eM 130 (v := .tuple #[.agg #[.int .i64 xN, .int .i64 xD], .int .i64 0]) hF hM (by kernel_rfl) (yld_call (f := 20) (args := #[.agg #[.int .i64 an, .int .i64 ad], .agg #[.int .i64 bn, .int .i64 bd]]) hF (by kernel_rfl) (fun _ => by kernel_rfl) (fun w hM => i7.to (raMul_ok an ad bn bd w (hT.below (Nat.le_refl _) hM.bel) sa.1 sb.1))) fun a w hF hM => ?_)
    refine sB 3 [(127, .tuple #[.agg #[.int .i64 xN, .int .i64 xD], .int .i64 0]), (131, .agg #[.int .i64 xN, .int .i64 xD]), (132, .int .i64 0)] hF (by kernel_rfl) fun a hF => ?_
    refine wl (eN 20 12 (t := 23) (fun b => .pointer (some ⟨b, 0, none⟩)) #[.int .i64 0, .int .i64 0] hF hM (by kernel_rfl) (fun _ => by kernel_rfl) fun bb12 a w hF hM => ?_)
    refine wl (sStore (i := 12) (off := 0) (cs' := #[.int .i64 xN, .int .i64 xD]) hF hM (by kernel_rfl) rfl rfl (by kernel_rfl) (by kernel_rfl) rfl (by kernel_rfl) fun w hM => ?_)
    refine sB 1 [(9, .int .i64 0)] hF (by kernel_rfl) fun a hF => ?_
    refine wpList_nil ?_
    refine hK13 _ _ ?_
    refine wp_seq_k fun K14 hK14 => ?_
    refine wp_region_lit ?_
    refine wl (eL 134 4 0 (v := .agg #[.int .i64 bn, .int .i64 bd]) hF hM (by kernel_rfl) rfl rfl (by kernel_rfl) (by kernel_rfl) fun a w hF hM => ?_)
    refine wl (eL 135 3 0 (v := .agg #[.int .i64 an, .int .i64 ad]) hF hM (by kernel_rfl) rfl rfl (by kernel_rfl) (by kernel_rfl) fun a w hF hM => ?_)
    refine wl (eM 136 (v := .tuple #[.agg #[.int .i64 xN, .int .i64 xD], .int .i64 0]) hF hM (by kernel_rfl) (yld_call (f := 20) (args := #[.agg #[.int .i64 bn, .int .i64 bd], .agg #[.int .i64 an, .int .i64 ad]]) hF (by kernel_rfl) (fun _ => by kernel_rfl) (fun w hM => i8.to (raMul_ok bn bd an ad w (hT.below (Nat.le_refl _) hM.bel) sb.1 sa.1))) fun a w hF hM => ?_)
    refine sB 3 [(133, .tuple #[.agg #[.int .i64 xN, .int .i64 xD], .int .i64 0]), (137, .agg #[.int .i64 xN, .int .i64 xD]), (138, .int .i64 0)] hF (by kernel_rfl) fun a hF => ?_
    refine wl (eN 21 13 (t := 23) (fun b => .pointer (some ⟨b, 0, none⟩)) #[.int .i64 0, .int .i64 0] hF hM (by kernel_rfl) (fun _ => by kernel_rfl) fun bb13 a w hF hM => ?_)
    refine wl (sStore (i := 13) (off := 0) (cs' := #[.int .i64 xN, .int .i64 xD]) hF hM (by kernel_rfl) rfl rfl (by kernel_rfl) (by kernel_rfl) rfl (by kernel_rfl) fun w hM => ?_)
    refine sB 1 [(11, .int .i64 0)] hF (by kernel_rfl) fun a hF => ?_
    refine wpList_nil ?_
    refine hK14 _ _ ?_
    refine wp_seq_k fun K15 hK15 => ?_
    refine wp_region_lit ?_
    refine wl (eL 140 12 0 (v := .agg #[.int .i64 xN, .int .i64 xD]) hF hM (by kernel_rfl) rfl rfl (by kernel_rfl) (by kernel_rfl) fun a w hF hM => ?_)
    refine wl (eL 141 5 0 (v := .agg #[.int .i64 cn, .int .i64 cd]) hF hM (by kernel_rfl) rfl rfl (by kernel_rfl) (by kernel_rfl) fun a w hF hM => ?_)
    refine wl (eM 142 (v := .tuple #[.agg #[.int .i64 pN, .int .i64 pD], .int .i64 0]) hF hM (by kernel_rfl) (yld_call (f := 20) (args := #[.agg #[.int .i64 xN, .int .i64 xD], .agg #[.int .i64 cn, .int .i64 cd]]) hF (by kernel_rfl) (fun _ => by kernel_rfl) (fun w hM => i9.to (raMul_ok xN xD cn cd w (hT.below (Nat.le_refl _) hM.bel) i7.2.2.2 sc.1))) fun a w hF hM => ?_)
    refine sB 3 [(139, .tuple #[.agg #[.int .i64 pN, .int .i64 pD], .int .i64 0]), (143, .agg #[.int .i64 pN, .int .i64 pD]), (144, .int .i64 0)] hF (by kernel_rfl) fun a hF => ?_
    refine wl (eN 22 14 (t := 23) (fun b => .pointer (some ⟨b, 0, none⟩)) #[.int .i64 0, .int .i64 0] hF hM (by kernel_rfl) (fun _ => by kernel_rfl) fun bb14 a w hF hM => ?_)
    refine wl (sStore (i := 14) (off := 0) (cs' := #[.int .i64 pN, .int .i64 pD]) hF hM (by kernel_rfl) rfl rfl (by kernel_rfl) (by kernel_rfl) rfl (by kernel_rfl) fun w hM => ?_)
    refine sB 1 [(13, .int .i64 0)] hF (by kernel_rfl) fun a hF => ?_
    refine wpList_nil ?_
    refine hK15 _ _ ?_
    refine wp_seq_k fun K16 hK16 => ?_
    refine wp_region_lit ?_
    refine wl (eL 146 4 0 (v := .agg #[.int .i64 bn, .int .i64 bd]) hF hM (by kernel_rfl) rfl rfl (by kernel_rfl) (by kernel_rfl) fun a w hF hM => ?_)
    refine wl (eL 147 5 0 (v := .agg #[.int .i64 cn, .int .i64 cd]) hF hM (by kernel_rfl) rfl rfl (by kernel_rfl) (by kernel_rfl) fun a w hF hM => ?_)
    refine wl (eM 148 (v := .tuple #[.agg #[.int .i64 zN, .int .i64 zD], .int .i64 0]) hF hM (by kernel_rfl) (yld_call (f := 20) (args := #[.agg #[.int .i64 bn, .int .i64 bd], .agg #[.int .i64 cn, .int .i64 cd]]) hF (by kernel_rfl) (fun _ => by kernel_rfl) (fun w hM => i10.to (raMul_ok bn bd cn cd w (hT.below (Nat.le_refl _) hM.bel) sb.1 sc.1))) fun a w hF hM => ?_)
    refine sB 3 [(145, .tuple #[.agg #[.int .i64 zN, .int .i64 zD], .int .i64 0]), (149, .agg #[.int .i64 zN, .int .i64 zD]), (150, .int .i64 0)] hF (by kernel_rfl) fun a hF => ?_
    refine wl (eN 23 15 (t := 23) (fun b => .pointer (some ⟨b, 0, none⟩)) #[.int .i64 0, .int .i64 0] hF hM (by kernel_rfl) (fun _ => by kernel_rfl) fun bb15 a w hF hM => ?_)
    refine wl (sStore (i := 15) (off := 0) (cs' := #[.int .i64 zN, .int .i64 zD]) hF hM (by kernel_rfl) rfl rfl (by kernel_rfl) (by kernel_rfl) rfl (by kernel_rfl) fun w hM => ?_)
    refine sB 1 [(15, .int .i64 0)] hF (by kernel_rfl) fun a hF => ?_
    refine wpList_nil ?_
    refine hK16 _ _ ?_
    refine wp_seq_k fun K17 hK17 => ?_
    refine wp_region_lit ?_
    refine wl (eL 152 3 0 (v := .agg #[.int .i64 an, .int .i64 ad]) hF hM (by kernel_rfl) rfl rfl (by kernel_rfl) (by kernel_rfl) fun a w hF hM => ?_)
    refine wl (eL 153 15 0 (v := .agg #[.int .i64 zN, .int .i64 zD]) hF hM (by kernel_rfl) rfl rfl (by kernel_rfl) (by kernel_rfl) fun a w hF hM => ?_)
    refine wl (eM 154 (v := .tuple #[.agg #[.int .i64 pN, .int .i64 pD], .int .i64 0]) hF hM (by kernel_rfl) (yld_call (f := 20) (args := #[.agg #[.int .i64 an, .int .i64 ad], .agg #[.int .i64 zN, .int .i64 zD]]) hF (by kernel_rfl) (fun _ => by kernel_rfl) (fun w hM => i11.to (raMul_ok an ad zN zD w (hT.below (Nat.le_refl _) hM.bel) sa.1 i10.2.2.2))) fun a w hF hM => ?_)
    refine sB 3 [(151, .tuple #[.agg #[.int .i64 pN, .int .i64 pD], .int .i64 0]), (155, .agg #[.int .i64 pN, .int .i64 pD]), (156, .int .i64 0)] hF (by kernel_rfl) fun a hF => ?_
    refine wl (eN 24 16 (t := 23) (fun b => .pointer (some ⟨b, 0, none⟩)) #[.int .i64 0, .int .i64 0] hF hM (by kernel_rfl) (fun _ => by kernel_rfl) fun bb16 a w hF hM => ?_)
    refine wl (sStore (i := 16) (off := 0) (cs' := #[.int .i64 pN, .int .i64 pD]) hF hM (by kernel_rfl) rfl rfl (by kernel_rfl) (by kernel_rfl) rfl (by kernel_rfl) fun w hM => ?_)
    refine sB 1 [(17, .int .i64 0)] hF (by kernel_rfl) fun a hF => ?_
    refine wpList_nil ?_
    refine hK17 _ _ ?_
    refine wp_seq_k fun K18 hK18 => ?_
    refine wp_region_lit ?_
    refine wl (eL 158 6 0 (v := .agg #[.int .i64 sN, .int .i64 sD]) hF hM (by kernel_rfl) rfl rfl (by kernel_rfl) (by kernel_rfl) fun a w hF hM => ?_)
    refine wl (eL 159 5 0 (v := .agg #[.int .i64 cn, .int .i64 cd]) hF hM (by kernel_rfl) rfl rfl (by kernel_rfl) (by kernel_rfl) fun a w hF hM => ?_)
    refine wl (eM 160 (v := .tuple #[.agg #[.int .i64 gN, .int .i64 gD], .int .i64 0]) hF hM (by kernel_rfl) (yld_call (f := 20) (args := #[.agg #[.int .i64 sN, .int .i64 sD], .agg #[.int .i64 cn, .int .i64 cd]]) hF (by kernel_rfl) (fun _ => by kernel_rfl) (fun w hM => i12.to (raMul_ok sN sD cn cd w (hT.below (Nat.le_refl _) hM.bel) i1.2.2.2 sc.1))) fun a w hF hM => ?_)
    refine sB 3 [(157, .tuple #[.agg #[.int .i64 gN, .int .i64 gD], .int .i64 0]), (161, .agg #[.int .i64 gN, .int .i64 gD]), (162, .int .i64 0)] hF (by kernel_rfl) fun a hF => ?_
    refine wl (eN 25 17 (t := 23) (fun b => .pointer (some ⟨b, 0, none⟩)) #[.int .i64 0, .int .i64 0] hF hM (by kernel_rfl) (fun _ => by kernel_rfl) fun bb17 a w hF hM => ?_)
    refine wl (sStore (i := 17) (off := 0) (cs' := #[.int .i64 gN, .int .i64 gD]) hF hM (by kernel_rfl) rfl rfl (by kernel_rfl) (by kernel_rfl) rfl (by kernel_rfl) fun w hM => ?_)
    refine sB 1 [(19, .int .i64 0)] hF (by kernel_rfl) fun a hF => ?_
    refine wpList_nil ?_
    refine hK18 _ _ ?_
    refine wp_seq_k fun K19 hK19 => ?_
    refine wp_region_lit ?_
    refine wl (eL 164 3 0 (v := .agg #[.int .i64 an, .int .i64 ad]) hF hM (by kernel_rfl) rfl rfl (by kernel_rfl) (by kernel_rfl) fun a w hF hM => ?_)
    refine wl (eL 165 5 0 (v := .agg #[.int .i64 cn, .int .i64 cd]) hF hM (by kernel_rfl) rfl rfl (by kernel_rfl) (by kernel_rfl) fun a w hF hM => ?_)
    refine wl (eM 166 (v := .tuple #[.agg #[.int .i64 kN, .int .i64 kD], .int .i64 0]) hF hM (by kernel_rfl) (yld_call (f := 20) (args := #[.agg #[.int .i64 an, .int .i64 ad], .agg #[.int .i64 cn, .int .i64 cd]]) hF (by kernel_rfl) (fun _ => by kernel_rfl) (fun w hM => i13.to (raMul_ok an ad cn cd w (hT.below (Nat.le_refl _) hM.bel) sa.1 sc.1))) fun a w hF hM => ?_)
    refine sB 3 [(163, .tuple #[.agg #[.int .i64 kN, .int .i64 kD], .int .i64 0]), (167, .agg #[.int .i64 kN, .int .i64 kD]), (168, .int .i64 0)] hF (by kernel_rfl) fun a hF => ?_
    refine wl (eN 26 18 (t := 23) (fun b => .pointer (some ⟨b, 0, none⟩)) #[.int .i64 0, .int .i64 0] hF hM (by kernel_rfl) (fun _ => by kernel_rfl) fun bb18 a w hF hM => ?_)
    refine wl (sStore (i := 18) (off := 0) (cs' := #[.int .i64 kN, .int .i64 kD]) hF hM (by kernel_rfl) rfl rfl (by kernel_rfl) (by kernel_rfl) rfl (by kernel_rfl) fun w hM => ?_)
    refine sB 1 [(27, .int .i64 0)] hF (by kernel_rfl) fun a hF => ?_
    refine wpList_nil ?_
    refine hK19 _ _ ?_
    refine wp_seq_k fun K20 hK20 => ?_
    refine wp_region_lit ?_
    refine wl (eL 170 18 0 (v := .agg #[.int .i64 kN, .int .i64 kD]) hF hM (by kernel_rfl) rfl rfl (by kernel_rfl) (by kernel_rfl) fun a w hF hM => ?_)
    refine wl (eL 171 15 0 (v := .agg #[.int .i64 zN, .int .i64 zD]) hF hM (by kernel_rfl) rfl rfl (by kernel_rfl) (by kernel_rfl) fun a w hF hM => ?_)
    refine wl (eM 172 (v := .tuple #[.agg #[.int .i64 gN, .int .i64 gD], .int .i64 0]) hF hM (by kernel_rfl) (yld_call (f := 16) (args := #[.agg #[.int .i64 kN, .int .i64 kD], .agg #[.int .i64 zN, .int .i64 zD]]) hF (by kernel_rfl) (fun _ => by kernel_rfl) (fun w hM => i14.to (raAdd_ok kN kD zN zD w (hT.below (Nat.le_refl _) hM.bel) i13.2.2.2 i10.2.2.2))) fun a w hF hM => ?_)
    refine sB 3 [(169, .tuple #[.agg #[.int .i64 gN, .int .i64 gD], .int .i64 0]), (173, .agg #[.int .i64 gN, .int .i64 gD]), (174, .int .i64 0)] hF (by kernel_rfl) fun a hF => ?_
    refine wl (eN 28 19 (t := 23) (fun b => .pointer (some ⟨b, 0, none⟩)) #[.int .i64 0, .int .i64 0] hF hM (by kernel_rfl) (fun _ => by kernel_rfl) fun bb19 a w hF hM => ?_)
    refine wl (sStore (i := 19) (off := 0) (cs' := #[.int .i64 gN, .int .i64 gD]) hF hM (by kernel_rfl) rfl rfl (by kernel_rfl) (by kernel_rfl) rfl (by kernel_rfl) fun w hM => ?_)
    refine sB 1 [(29, .int .i64 0)] hF (by kernel_rfl) fun a hF => ?_
    refine wpList_nil ?_
    refine hK20 _ _ ?_
    refine wp_seq_k fun K21 hK21 => ?_
    refine wp_seq_k fun K22 hK22 => ?_
    refine wp_region_lit ?_
    refine sB 1 [(175, .int .i64 0)] hF (by kernel_rfl) fun a hF => ?_
    refine wl (eP 176 (v0 := .bool (!decide (0 = 0))) (v := .bool false) hF (by kernel_rfl) (fun _ => by kernel_rfl) (nT (by omega)) fun a hF => ?_)
    refine sB 2 [(177, .bool false), (178, .int .i64 0)] hF (by kernel_rfl) fun a hF => ?_
    refine wl (eP 179 (v0 := .bool (!decide (0 = 0))) (v := .bool false) hF (by kernel_rfl) (fun _ => by kernel_rfl) (nT (by omega)) fun a hF => ?_)
    refine sB 3 [(180, .bool false), (181, .bool false), (182, .int .i64 0)] hF (by kernel_rfl) fun a hF => ?_
    refine wl (eP 183 (v0 := .bool (!decide (0 = 0))) (v := .bool false) hF (by kernel_rfl) (fun _ => by kernel_rfl) (nT (by omega)) fun a hF => ?_)
    refine sB 3 [(184, .bool false), (185, .bool false), (186, .int .i64 0)] hF (by kernel_rfl) fun a hF => ?_
    refine wl (eP 187 (v0 := .bool (!decide (0 = 0))) (v := .bool false) hF (by kernel_rfl) (fun _ => by kernel_rfl) (nT (by omega)) fun a hF => ?_)
    refine sB 3 [(188, .bool false), (189, .bool false), (190, .int .i64 0)] hF (by kernel_rfl) fun a hF => ?_
    refine wl (eP 191 (v0 := .bool (!decide (0 = 0))) (v := .bool false) hF (by kernel_rfl) (fun _ => by kernel_rfl) (nT (by omega)) fun a hF => ?_)
    refine sB 3 [(192, .bool false), (193, .bool false), (194, .int .i64 0)] hF (by kernel_rfl) fun a hF => ?_
    refine wl (eP 195 (v0 := .bool (!decide (0 = 0))) (v := .bool false) hF (by kernel_rfl) (fun _ => by kernel_rfl) (nT (by omega)) fun a hF => ?_)
    refine sB 3 [(196, .bool false), (197, .bool false), (198, .int .i64 0)] hF (by kernel_rfl) fun a hF => ?_
    refine wl (eP 199 (v0 := .bool (!decide (0 = 0))) (v := .bool false) hF (by kernel_rfl) (fun _ => by kernel_rfl) (nT (by omega)) fun a hF => ?_)
    refine sB 3 [(200, .bool false), (201, .bool false), (202, .int .i64 0)] hF (by kernel_rfl) fun a hF => ?_
    refine wl (eP 203 (v0 := .bool (!decide (0 = 0))) (v := .bool false) hF (by kernel_rfl) (fun _ => by kernel_rfl) (nT (by omega)) fun a hF => ?_)
    refine sB 2 [(204, .bool false), (205, .bool false)] hF (by kernel_rfl) fun a hF => ?_
    refine wl (eL 206 12 0 (v := .agg #[.int .i64 xN, .int .i64 xD]) hF hM (by kernel_rfl) rfl rfl (by kernel_rfl) (by kernel_rfl) fun a w hF hM => ?_)
    refine wl (eL 207 13 0 (v := .agg #[.int .i64 xN, .int .i64 xD]) hF hM (by kernel_rfl) rfl rfl (by kernel_rfl) (by kernel_rfl) fun a w hF hM => ?_)
    refine wl (eM 208 (v := .bool false) hF hM (by kernel_rfl) ((yld_neq (C := Mem _ _ _) [xN, xD] [xN, xD] hF rfl (by kernel_rfl) (by kernel_rfl) (by kernel_rfl) rfl (by kernel_rfl) (by kernel_rfl) (by kernel_rfl) rfl rfl).to (nT rfl)) fun a w hF hM => ?_)
    refine sB 2 [(209, .bool false), (210, .bool false)] hF (by kernel_rfl) fun a hF => ?_
    refine wl (eL 211 14 0 (v := .agg #[.int .i64 pN, .int .i64 pD]) hF hM (by kernel_rfl) rfl rfl (by kernel_rfl) (by kernel_rfl) fun a w hF hM => ?_)
    refine wl (eL 212 16 0 (v := .agg #[.int .i64 pN, .int .i64 pD]) hF hM (by kernel_rfl) rfl rfl (by kernel_rfl) (by kernel_rfl) fun a w hF hM => ?_)
    refine wl (eM 213 (v := .bool false) hF hM (by kernel_rfl) ((yld_neq (C := Mem _ _ _) [pN, pD] [pN, pD] hF rfl (by kernel_rfl) (by kernel_rfl) (by kernel_rfl) rfl (by kernel_rfl) (by kernel_rfl) (by kernel_rfl) rfl rfl).to (nT rfl)) fun a w hF hM => ?_)
    refine sB 2 [(214, .bool false), (215, .bool false)] hF (by kernel_rfl) fun a hF => ?_
    refine wl (eL 216 17 0 (v := .agg #[.int .i64 gN, .int .i64 gD]) hF hM (by kernel_rfl) rfl rfl (by kernel_rfl) (by kernel_rfl) fun a w hF hM => ?_)
    refine wl (eL 217 19 0 (v := .agg #[.int .i64 gN, .int .i64 gD]) hF hM (by kernel_rfl) rfl rfl (by kernel_rfl) (by kernel_rfl) fun a w hF hM => ?_)
    refine wl (eM 218 (v := .bool false) hF hM (by kernel_rfl) ((yld_neq (C := Mem _ _ _) [gN, gD] [gN, gD] hF rfl (by kernel_rfl) (by kernel_rfl) (by kernel_rfl) rfl (by kernel_rfl) (by kernel_rfl) (by kernel_rfl) rfl rfl).to (nT rfl)) fun a w hF hM => ?_)
    refine sB 1 [(219, .bool false)] hF (by kernel_rfl) fun a hF => ?_
    refine wpList_nil ?_
    refine hK22 _ _ ?_
    refine cF hF (by kernel_rfl) (by kernel_rfl) ?_
    refine wp_skip ?_
    refine hK21 _ _ ?_
    refine wp_seq_k fun K23 hK23 => ?_
    by_cases hz2 : bn = 0
    · skip
      refine wp_region_lit ?_
      refine wl (eL 221 12 0 (v := .agg #[.int .i64 xN, .int .i64 xD]) hF hM (by kernel_rfl) rfl rfl (by kernel_rfl) (by kernel_rfl) fun a w hF hM => ?_)
      refine wl (eL 222 4 0 (v := .agg #[.int .i64 bn, .int .i64 bd]) hF hM (by kernel_rfl) rfl rfl (by kernel_rfl) (by kernel_rfl) fun a w hF hM => ?_)
      refine wl (eM 223 (v := .tuple #[.agg #[.int .i64 0, .int .i64 0], .int .i64 2]) hF hM (by kernel_rfl) (yld_call (f := 22) (args := #[.agg #[.int .i64 xN, .int .i64 xD], .agg #[.int .i64 bn, .int .i64 bd]]) hF (by kernel_rfl) (fun _ => by kernel_rfl) (fun w hM => Is.zero (by rw [hz2, Int.mul_zero]) (raDiv_ok xN xD bn bd w (hT.below (Nat.le_refl _) hM.bel) i7.2.2.2 sb.1))) fun a w hF hM => ?_)
      refine sB 3 [(220, .tuple #[.agg #[.int .i64 0, .int .i64 0], .int .i64 2]), (224, .agg #[.int .i64 0, .int .i64 0]), (225, .int .i64 2)] hF (by kernel_rfl) fun a hF => ?_
      refine wl (eN 30 20 (t := 23) (fun b => .pointer (some ⟨b, 0, none⟩)) #[.int .i64 0, .int .i64 0] hF hM (by kernel_rfl) (fun _ => by kernel_rfl) fun bb20 a w hF hM => ?_)
      refine wl (sStore (i := 20) (off := 0) (cs' := #[.int .i64 0, .int .i64 0]) hF hM (by kernel_rfl) rfl rfl (by kernel_rfl) (by kernel_rfl) rfl (by kernel_rfl) fun w hM => ?_)
      refine sB 1 [(31, .int .i64 2)] hF (by kernel_rfl) fun a hF => ?_
      refine wpList_nil ?_
      refine hK23 _ _ ?_
      refine wp_seq_k fun K24 hK24 => ?_
      refine wp_seq_k fun K25 hK25 => ?_
      refine wp_region_lit ?_
      refine sB 1 [(226, .pointer (some ⟨bb4, 0, none⟩))] hF (by kernel_rfl) fun a hF => ?_
      refine wl (eL 227 4 0 (v := .int .i64 bn) hF hM (by kernel_rfl) rfl rfl (by kernel_rfl) (by kernel_rfl) fun a w hF hM => ?_)
      refine wl (eP 228 (v0 := .bool (decide (bn = 0))) (v := .bool true) hF (by kernel_rfl) (fun _ => by kernel_rfl) (bT hz2) fun a hF => ?_)
      refine wpList_nil ?_
      refine hK25 _ _ ?_
      refine cT hF (by kernel_rfl) (by kernel_rfl) ?_
      refine wp_seq_k fun K26 hK26 => ?_
      refine wp_region_lit ?_
      refine sB 1 [(229, .int .i64 2)] hF (by kernel_rfl) fun a hF => ?_
      refine wl (eP 230 (v0 := .bool (decide (2 = 2))) (v := .bool true) hF (by kernel_rfl) (fun _ => by kernel_rfl) (bT (by omega)) fun a hF => ?_)
      refine sB 1 [(4, .bool true)] hF (by kernel_rfl) fun a hF => ?_
      refine wpList_nil ?_
      refine hK26 _ _ ?_
      refine wp_ret ?_
      refine hR0 _ _ ?_
      refine ret_of hF hM (.tmp rfl (.nil)) ?_
      exact ⟨rfl, hM.bel⟩
    · skip
      refine wp_region_lit ?_
      refine wl (eL 221 12 0 (v := .agg #[.int .i64 xN, .int .i64 xD]) hF hM (by kernel_rfl) rfl rfl (by kernel_rfl) (by kernel_rfl) fun a w hF hM => ?_)
      refine wl (eL 222 4 0 (v := .agg #[.int .i64 bn, .int .i64 bd]) hF hM (by kernel_rfl) rfl rfl (by kernel_rfl) (by kernel_rfl) fun a w hF hM => ?_)
      refine wl (eM 223 (v := .tuple #[.agg #[.int .i64 an, .int .i64 ad], .int .i64 0]) hF hM (by kernel_rfl) (yld_call (f := 22) (args := #[.agg #[.int .i64 xN, .int .i64 xD], .agg #[.int .i64 bn, .int .i64 bd]]) hF (by kernel_rfl) (fun _ => by kernel_rfl) (fun w hM => (i15 hz2).to (raDiv_ok xN xD bn bd w (hT.below (Nat.le_refl _) hM.bel) i7.2.2.2 sb.1))) fun a w hF hM => ?_)
      refine sB 3 [(220, .tuple #[.agg #[.int .i64 an, .int .i64 ad], .int .i64 0]), (224, .agg #[.int .i64 an, .int .i64 ad]), (225, .int .i64 0)] hF (by kernel_rfl) fun a hF => ?_
      refine wl (eN 30 21 (t := 23) (fun b => .pointer (some ⟨b, 0, none⟩)) #[.int .i64 0, .int .i64 0] hF hM (by kernel_rfl) (fun _ => by kernel_rfl) fun bb21 a w hF hM => ?_)
      refine wl (sStore (i := 21) (off := 0) (cs' := #[.int .i64 an, .int .i64 ad]) hF hM (by kernel_rfl) rfl rfl (by kernel_rfl) (by kernel_rfl) rfl (by kernel_rfl) fun w hM => ?_)
      refine sB 1 [(31, .int .i64 0)] hF (by kernel_rfl) fun a hF => ?_
      refine wpList_nil ?_
      refine hK23 _ _ ?_
      refine wp_seq_k fun K27 hK27 => ?_
      refine wp_seq_k fun K28 hK28 => ?_
      refine wp_region_lit ?_
      refine sB 1 [(226, .pointer (some ⟨bb4, 0, none⟩))] hF (by kernel_rfl) fun a hF => ?_
      refine wl (eL 227 4 0 (v := .int .i64 bn) hF hM (by kernel_rfl) rfl rfl (by kernel_rfl) (by kernel_rfl) fun a w hF hM => ?_)
      refine wl (eP 228 (v0 := .bool (decide (bn = 0))) (v := .bool false) hF (by kernel_rfl) (fun _ => by kernel_rfl) (bF hz2) fun a hF => ?_)
      refine wpList_nil ?_
      refine hK28 _ _ ?_
      refine cF hF (by kernel_rfl) (by kernel_rfl) ?_
      refine wp_skip ?_
      refine hK27 _ _ ?_
      refine wp_seq_k fun K29 hK29 => ?_
      refine wp_region_lit ?_
      refine sB 1 [(231, .int .i64 0)] hF (by kernel_rfl) fun a hF => ?_
      refine wl (eP 232 (v0 := .bool (decide (0 = 0))) (v := .bool true) hF (by kernel_rfl) (fun _ => by kernel_rfl) (bT (by omega)) fun a hF => ?_)
      refine sB 1 [(233, .bool true)] hF (by kernel_rfl) fun a hF => ?_
      refine wl (eL 234 21 0 (v := .agg #[.int .i64 an, .int .i64 ad]) hF hM (by kernel_rfl) rfl rfl (by kernel_rfl) (by kernel_rfl) fun a w hF hM => ?_)
      refine wl (eL 235 3 0 (v := .agg #[.int .i64 an, .int .i64 ad]) hF hM (by kernel_rfl) rfl rfl (by kernel_rfl) (by kernel_rfl) fun a w hF hM => ?_)
      refine wl (eM 236 (v := .bool true) hF hM (by kernel_rfl) ((yld_eql (C := Mem _ _ _) [an, ad] [an, ad] hF rfl (by kernel_rfl) (by kernel_rfl) (by kernel_rfl) rfl (by kernel_rfl) (by kernel_rfl) (by kernel_rfl) rfl rfl).to (bT rfl)) fun a w hF hM => ?_)
      refine sB 2 [(237, .bool true), (4, .bool true)] hF (by kernel_rfl) fun a hF => ?_
      refine wpList_nil ?_
      refine hK29 _ _ ?_
      refine wp_ret ?_
      refine hR0 _ _ ?_
      refine ret_of hF hM (.tmp rfl (.nil)) ?_
      exact ⟨rfl, hM.bel⟩

end Go.Proofs.YtboodcekjooehaaDoor
