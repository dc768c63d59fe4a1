/-
  The walk of RatOrder.
-/
import Derived.Test.YtboodcekjooehaaDoorRatF
namespace Go.Proofs.YtboodcekjooehaaDoor
open Go.RowKit
set_option linter.unusedVariables false
set_option linter.unusedSimpArgs false

set_option maxRecDepth 100000 in
set_option maxHeartbeats 8000000 in
theorem ratOrder_walk (n0 n1 n2 d0 d1 d2 : Int) (w0 : World) (hT : Tab w0) (h : -128 ≤ n0 ∧ n0 ≤ 127 ∧ 0 ≤ d0 ∧ d0 ≤ 255 ∧ -128 ≤ n1 ∧ n1 ≤ 127 ∧ 0 ≤ d1 ∧ d1 ≤ 255 ∧ -128 ≤ n2 ∧ n2 ≤ 127 ∧ 0 ≤ d2 ∧ d2 ≤ 255) :
    Calls Tryd.prog 6 #[.agg #[.int .i8 n0, .int .i8 n1, .int .i8 n2], .agg #[.int .u8 d0, .int .u8 d1, .int .u8 d2]] w0 (Ret w0 (.bool true)) := by
  obtain ⟨an, ad, ea1, ea2, sa⟩ := small_is (n := n0) (d := d0) (by omega)
  have sa' := sa
  unfold sm at sa'
  obtain ⟨bn, bd, eb1, eb2, sb⟩ := small_is (n := n1) (d := d1) (by omega)
  have sb' := sb
  unfold sm at sb'
  obtain ⟨cn, cd, ec1, ec2, sc⟩ := small_is (n := n2) (d := d2) (by omega)
  have sc' := sc
  unfold sm at sc'
  obtain ⟨dN, dD, i1, o1, o2⟩ := order_facts sa sb
  obtain ⟨xab, hxab⟩ : ∃ z : Int, rcV an ad bn bd = z := ⟨_, rfl⟩
  obtain ⟨xbc, hxbc⟩ : ∃ z : Int, rcV bn bd cn cd = z := ⟨_, rfl⟩
  obtain ⟨xac, hxac⟩ : ∃ z : Int, rcV an ad cn cd = z := ⟨_, rfl⟩
  have hba := rc_neg an ad bn bd
  have hz := rc_zero sa.1 sb.1
  have htr := rc_trans (a := an) (b := ad) (c := bn) (d := bd) (e := cn) (f := cd) (by omega) (by omega) (by omega)
  have bab := rcV_bd an ad bn bd
  have bbc := rcV_bd bn bd cn cd
  have bac := rcV_bd an ad cn cd
  rw [hxab] at o1 o2 hba hz htr bab
  rw [hxbc] at htr bbc
  rw [hxac] at htr bac
  obtain ⟨xba, hxba⟩ : ∃ z : Int, -xab = z := ⟨_, rfl⟩
  have hfl := floor_facts sa
  obtain ⟨lo, hlo⟩ : ∃ z : Int, fdV an ad = z := ⟨_, rfl⟩
  obtain ⟨hi, hhi⟩ : ∃ z : Int, cdV an ad = z := ⟨_, rfl⟩
  rw [hlo, hhi] at hfl
  refine enterK 178 Tryd.func6 rfl rfl rfl ?_
  intro a hF Q0 hR0 hN0
  have hM := Mem.start w0
  refine wp_seq_k fun K1 hK1 => ?_
  refine wp_region_lit ?_
  refine wl (eN 2 1 (t := 39) (fun b => .pointer (some ⟨b, 0, none⟩)) #[.int .i8 n0, .int .i8 n1, .int .i8 n2] hF hM (by kernel_rfl) (fun _ => by kernel_rfl) fun bb1 a w hF hM => ?_)
  refine wl (eN 3 2 (t := 40) (fun b => .pointer (some ⟨b, 0, none⟩)) #[.int .u8 d0, .int .u8 d1, .int .u8 d2] hF hM (by kernel_rfl) (fun _ => by kernel_rfl) fun bb2 a w hF hM => ?_)
  refine sB 1 [(4, .bool false)] hF (by kernel_rfl) fun a hF => ?_
  refine wpList_nil ?_
  refine hK1 _ _ ?_
  refine wp_seq_k fun K2 hK2 => ?_
  refine wp_seq_k fun K3 hK3 => ?_
  refine wp_region_lit ?_
  refine wl (eM 22 (v := .bool true) hF hM (by kernel_rfl) (yld_call (f := 14) (args := #[]) hF (by kernel_rfl) (fun _ => by kernel_rfl) (fun w hM => works_w w (hT.below (Nat.le_refl _) hM.bel))) fun a w hF hM => ?_)
  refine sB 1 [(23, .bool false)] hF (by kernel_rfl) fun a hF => ?_
  refine wpList_nil ?_
  refine hK3 _ _ ?_
  refine cF hF (by kernel_rfl) (by kernel_rfl) ?_
  refine wp_skip ?_
  refine hK2 _ _ ?_
  refine wp_seq_k fun K4 hK4 => ?_
  refine rF (by kernel_rfl) (by kernel_rfl) (fun S a w => ∃ bb3 : Nat, ∃ bb4 : Nat, ∃ bb5 : Nat, Fr 178 [(2, some (.pointer (some ⟨bb1, 0, none⟩))), (3, some (.pointer (some ⟨bb2, 0, none⟩))), (4, some (.bool false)), (5, (cond (S.getD 15 false) (some (.pointer (some ⟨bb3, 0, none⟩))) none)), (6, (cond (S.getD 16 false) (some (.pointer (some ⟨bb4, 0, none⟩))) none)), (7, (cond (S.getD 17 false) (some (.pointer (some ⟨bb5, 0, none⟩))) none)), (24, (cond (S.getD 0 false) (some (.pointer (some ⟨bb1, 0, none⟩))) none)), (25, (cond (S.getD 1 false) (some (.int .i8 n0)) none)), (26, (cond (S.getD 2 false) (some (.pointer (some ⟨bb2, 0, none⟩))) none)), (27, (cond (S.getD 3 false) (some (.int .u8 d0)) none)), (28, (cond (S.getD 4 false) (some (.agg #[.int .i64 an, .int .i64 ad])) none)), (29, (cond (S.getD 5 false) (some (.pointer (some ⟨bb1, 1, none⟩))) none)), (30, (cond (S.getD 6 false) (some (.int .i8 n1)) none)), (31, (cond (S.getD 7 false) (some (.pointer (some ⟨bb2, 1, none⟩))) none)), (32, (cond (S.getD 8 false) (some (.int .u8 d1)) none)), (33, (cond (S.getD 9 false) (some (.agg #[.int .i64 bn, .int .i64 bd])) none)), (34, (cond (S.getD 10 false) (some (.pointer (some ⟨bb1, 2, none⟩))) none)), (35, (cond (S.getD 11 false) (some (.int .i8 n2)) none)), (36, (cond (S.getD 12 false) (some (.pointer (some ⟨bb2, 2, none⟩))) none)), (37, (cond (S.getD 13 false) (some (.int .u8 d2)) none)), (38, (cond (S.getD 14 false) (some (.agg #[.int .i64 cn, .int .i64 cd])) none))] a ∧ Mem w0.heap.size w0 [(1, some (.row bb1 39 #[.int .i8 n0, .int .i8 n1, .int .i8 n2])), (2, some (.row bb2 40 #[.int .u8 d0, .int .u8 d1, .int .u8 d2])), (3, (cond (S.getD 18 false) (some (.row bb3 23 #[.int .i64 an, .int .i64 ad])) (cond (S.getD 15 false) (some (.row bb3 23 #[.int .i64 0, .int .i64 0])) none))), (4, (cond (S.getD 19 false) (some (.row bb4 23 #[.int .i64 bn, .int .i64 bd])) (cond (S.getD 16 false) (some (.row bb4 23 #[.int .i64 0, .int .i64 0])) none))), (5, (cond (S.getD 20 false) (some (.row bb5 23 #[.int .i64 cn, .int .i64 cd])) (cond (S.getD 17 false) (some (.row bb5 23 #[.int .i64 0, .int .i64 0])) none)))] w) ?_ ?_ ?_
  · exact ⟨0, 0, 0, ((((((((((((((((((((((Fr.nil hF).co hF (i := 38) (by kernel_rfl)).co hF (i := 37) (by kernel_rfl)).co hF (i := 36) (by kernel_rfl)).co hF (i := 35) (by kernel_rfl)).co hF (i := 34) (by kernel_rfl)).co hF (i := 33) (by kernel_rfl)).co hF (i := 32) (by kernel_rfl)).co hF (i := 31) (by kernel_rfl)).co hF (i := 30) (by kernel_rfl)).co hF (i := 29) (by kernel_rfl)).co hF (i := 28) (by kernel_rfl)).co hF (i := 27) (by kernel_rfl)).co hF (i := 26) (by kernel_rfl)).co hF (i := 25) (by kernel_rfl)).co hF (i := 24) (by kernel_rfl)).co hF (i := 7) (by kernel_rfl)).co hF (i := 6) (by kernel_rfl)).co hF (i := 5) (by kernel_rfl)).co hF (i := 4) (by kernel_rfl)).co hF (i := 3) (by kernel_rfl)).co hF (i := 2) (by kernel_rfl)), hM.drew.sub (((((Sub.nil.co (k := 5) (by kernel_rfl)).co (k := 4) (by kernel_rfl)).co (k := 3) (by kernel_rfl)).co (k := 2) (by kernel_rfl)).co (k := 1) (by kernel_rfl))⟩
  · refine stC ?_ (stC ?_ (stC ?_ (stC ?_ (stC ?_ (stC ?_ (stC ?_ (stC ?_ (stC ?_ (stC ?_ (stC ?_ (stC ?_ (stC ?_ (stC ?_ (stC ?_ (stC ?_ (stC ?_ (stC ?_ (stC ?_ (stC ?_ (stC ?_ (trivial)))))))))))))))))))))
    · intro s0 s1 s2 s3 s4 s5 s6 s7 s8 s9 s10 s11 s12 s13 s14 s15 s16 s17 s18 s19 s20 hc hi hp a w hS
      obtain rfl : s0 = false := hi
      obtain ⟨bb3, bb4, bb5, hF, hM⟩ := hS
      refine eP 24 (v0 := .pointer (some ⟨bb1, 0, none⟩)) (v := .pointer (some ⟨bb1, 0, none⟩)) hF (by kernel_rfl) (fun _ => by kernel_rfl) rfl fun a hF => ?_
      exact ⟨bb3, bb4, bb5, ((hF.repl 6 (by kernel_rfl)).cast (by kernel_rfl)), (hM.cast (by kernel_rfl))⟩
    · intro s0 s1 s2 s3 s4 s5 s6 s7 s8 s9 s10 s11 s12 s13 s14 s15 s16 s17 s18 s19 s20 hc hi hp a w hS
      obtain rfl : s1 = false := hi
      obtain rfl : s0 = true := hp 0 (by kernel_rfl)
      obtain ⟨bb3, bb4, bb5, hF, hM⟩ := hS
      refine eL 25 1 0 (v := .int .i8 n0) hF hM (by kernel_rfl) rfl rfl (by kernel_rfl) (by kernel_rfl) fun a w hF hM => ?_
      exact ⟨bb3, bb4, bb5, ((hF.repl 7 (by kernel_rfl)).cast (by kernel_rfl)), (hM.cast (by kernel_rfl))⟩
    · intro s0 s1 s2 s3 s4 s5 s6 s7 s8 s9 s10 s11 s12 s13 s14 s15 s16 s17 s18 s19 s20 hc hi hp a w hS
      obtain rfl : s2 = false := hi
      obtain ⟨bb3, bb4, bb5, hF, hM⟩ := hS
      refine eP 26 (v0 := .pointer (some ⟨bb2, 0, none⟩)) (v := .pointer (some ⟨bb2, 0, none⟩)) hF (by kernel_rfl) (fun _ => by kernel_rfl) rfl fun a hF => ?_
      exact ⟨bb3, bb4, bb5, ((hF.repl 8 (by kernel_rfl)).cast (by kernel_rfl)), (hM.cast (by kernel_rfl))⟩
    · intro s0 s1 s2 s3 s4 s5 s6 s7 s8 s9 s10 s11 s12 s13 s14 s15 s16 s17 s18 s19 s20 hc hi hp a w hS
      obtain rfl : s3 = false := hi
      obtain rfl : s2 = true := hp 2 (by kernel_rfl)
      obtain ⟨bb3, bb4, bb5, hF, hM⟩ := hS
      refine eL 27 2 0 (v := .int .u8 d0) hF hM (by kernel_rfl) rfl rfl (by kernel_rfl) (by kernel_rfl) fun a w hF hM => ?_
      exact ⟨bb3, bb4, bb5, ((hF.repl 9 (by kernel_rfl)).cast (by kernel_rfl)), (hM.cast (by kernel_rfl))⟩
    · intro s0 s1 s2 s3 s4 s5 s6 s7 s8 s9 s10 s11 s12 s13 s14 s15 s16 s17 s18 s19 s20 hc hi hp a w hS
      obtain rfl : s4 = false := hi
      obtain rfl : s3 = true := hp 3 (by kernel_rfl)
      obtain rfl : s1 = true := hp 1 (by kernel_rfl)
      obtain ⟨bb3, bb4, bb5, hF, hM⟩ := hS
      refine eM 28 (v := .agg #[.int .i64 an, .int .i64 ad]) hF hM (by kernel_rfl) (yld_call (f := 24) (args := #[.int .i8 n0, .int .u8 d0]) hF (by kernel_rfl) (fun _ => by kernel_rfl) (fun w hM => agg_to ea1 ea2 (small_w n0 d0 w (hT.below (Nat.le_refl _) hM.bel) (by omega)))) fun a w hF hM => ?_
      exact ⟨bb3, bb4, bb5, ((hF.repl 10 (by kernel_rfl)).cast (by kernel_rfl)), (hM.cast (by kernel_rfl))⟩
    · intro s0 s1 s2 s3 s4 s5 s6 s7 s8 s9 s10 s11 s12 s13 s14 s15 s16 s17 s18 s19 s20 hc hi hp a w hS
      obtain rfl : s5 = false := hi
      obtain ⟨bb3, bb4, bb5, hF, hM⟩ := hS
      refine eP 29 (v0 := .pointer (some ⟨bb1, 1, none⟩)) (v := .pointer (some ⟨bb1, 1, none⟩)) hF (by kernel_rfl) (fun _ => by kernel_rfl) rfl fun a hF => ?_
      exact ⟨bb3, bb4, bb5, ((hF.repl 11 (by kernel_rfl)).cast (by kernel_rfl)), (hM.cast (by kernel_rfl))⟩
    · intro s0 s1 s2 s3 s4 s5 s6 s7 s8 s9 s10 s11 s12 s13 s14 s15 s16 s17 s18 s19 s20 hc hi hp a w hS
      obtain rfl : s6 = false := hi
      obtain rfl : s5 = true := hp 5 (by kernel_rfl)
      obtain ⟨bb3, bb4, bb5, hF, hM⟩ := hS
      refine eL 30 1 1 (v := .int .i8 n1) hF hM (by kernel_rfl) rfl rfl (by kernel_rfl) (by kernel_rfl) fun a w hF hM => ?_
      exact ⟨bb3, bb4, bb5, ((hF.repl 12 (by kernel_rfl)).cast (by kernel_rfl)), (hM.cast (by kernel_rfl))⟩
    · intro s0 s1 s2 s3 s4 s5 s6 s7 s8 s9 s10 s11 s12 s13 s14 s15 s16 s17 s18 s19 s20 hc hi hp a w hS
      obtain rfl : s7 = false := hi
      obtain ⟨bb3, bb4, bb5, hF, hM⟩ := hS
      refine eP 31 (v0 := .pointer (some ⟨bb2, 1, none⟩)) (v := .pointer (some ⟨bb2, 1, none⟩)) hF (by kernel_rfl) (fun _ => by kernel_rfl) rfl fun a hF => ?_
      exact ⟨bb3, bb4, bb5, ((hF.repl 13 (by kernel_rfl)).cast (by kernel_rfl)), (hM.cast (by kernel_rfl))⟩
    · intro s0 s1 s2 s3 s4 s5 s6 s7 s8 s9 s10 s11 s12 s13 s14 s15 s16 s17 s18 s19 s20 hc hi hp a w hS
      obtain rfl : s8 = false := hi
      obtain rfl : s7 = true := hp 7 (by kernel_rfl)
      obtain ⟨bb3, bb4, bb5, hF, hM⟩ := hS
      refine eL 32 2 1 (v := .int .u8 d1) hF hM (by kernel_rfl) rfl rfl (by kernel_rfl) (by kernel_rfl) fun a w hF hM => ?_
      exact ⟨bb3, bb4, bb5, ((hF.repl 14 (by kernel_rfl)).cast (by kernel_rfl)), (hM.cast (by kernel_rfl))⟩
    · intro s0 s1 s2 s3 s4 s5 s6 s7 s8 s9 s10 s11 s12 s13 s14 s15 s16 s17 s18 s19 s20 hc hi hp a w hS
      obtain rfl : s9 = false := hi
      obtain rfl : s8 = true := hp 8 (by kernel_rfl)
      obtain rfl : s6 = true := hp 6 (by kernel_rfl)
      obtain ⟨bb3, bb4, bb5, hF, hM⟩ := hS
      refine eM 33 (v := .agg #[.int .i64 bn, .int .i64 bd]) hF hM (by kernel_rfl) (yld_call (f := 24) (args := #[.int .i8 n1, .int .u8 d1]) hF (by kernel_rfl) (fun _ => by kernel_rfl) (fun w hM => agg_to eb1 eb2 (small_w n1 d1 w (hT.below (Nat.le_refl _) hM.bel) (by omega)))) fun a w hF hM => ?_
      exact ⟨bb3, bb4, bb5, ((hF.repl 15 (by kernel_rfl)).cast (by kernel_rfl)), (hM.cast (by kernel_rfl))⟩
    · intro s0 s1 s2 s3 s4 s5 s6 s7 s8 s9 s10 s11 s12 s13 s14 s15 s16 s17 s18 s19 s20 hc hi hp a w hS
      obtain rfl : s10 = false := hi
      obtain ⟨bb3, bb4, bb5, hF, hM⟩ := hS
      refine eP 34 (v0 := .pointer (some ⟨bb1, 2, none⟩)) (v := .pointer (some ⟨bb1, 2, none⟩)) hF (by kernel_rfl) (fun _ => by kernel_rfl) rfl fun a hF => ?_
      exact ⟨bb3, bb4, bb5, ((hF.repl 16 (by kernel_rfl)).cast (by kernel_rfl)), (hM.cast (by kernel_rfl))⟩
    · intro s0 s1 s2 s3 s4 s5 s6 s7 s8 s9 s10 s11 s12 s13 s14 s15 s16 s17 s18 s19 s20 hc hi hp a w hS
      obtain rfl : s11 = false := hi
      obtain rfl : s10 = true := hp 10 (by kernel_rfl)
      obtain ⟨bb3, bb4, bb5, hF, hM⟩ := hS
      refine eL 35 1 2 (v := .int .i8 n2) hF hM (by kernel_rfl) rfl rfl (by kernel_rfl) (by kernel_rfl) fun a w hF hM => ?_
      exact ⟨bb3, bb4, bb5, ((hF.repl 17 (by kernel_rfl)).cast (by kernel_rfl)), (hM.cast (by kernel_rfl))⟩
    · intro s0 s1 s2 s3 s4 s5 s6 s7 s8 s9 s10 s11 s12 s13 s14 s15 s16 s17 s18 s19 s20 hc hi hp a w hS
      obtain rfl : s12 = false := hi
      obtain ⟨bb3, bb4, bb5, hF, hM⟩ := hS
      refine eP 36 (v0 := .pointer (some ⟨bb2, 2, none⟩)) (v := .pointer (some ⟨bb2, 2, none⟩)) hF (by kernel_rfl) (fun _ => by kernel_rfl) rfl fun a hF => ?_
      exact ⟨bb3, bb4, bb5, ((hF.repl 18 (by kernel_rfl)).cast (by kernel_rfl)), (hM.cast (by kernel_rfl))⟩
    · intro s0 s1 s2 s3 s4 s5 s6 s7 s8 s9 s10 s11 s12 s13 s14 s15 s16 s17 s18 s19 s20 hc hi hp a w hS
      obtain rfl : s13 = false := hi
      obtain rfl : s12 = true := hp 12 (by kernel_rfl)
      obtain ⟨bb3, bb4, bb5, hF, hM⟩ := hS
      refine eL 37 2 2 (v := .int .u8 d2) hF hM (by kernel_rfl) rfl rfl (by kernel_rfl) (by kernel_rfl) fun a w hF hM => ?_
      exact ⟨bb3, bb4, bb5, ((hF.repl 19 (by kernel_rfl)).cast (by kernel_rfl)), (hM.cast (by kernel_rfl))⟩
    · intro s0 s1 s2 s3 s4 s5 s6 s7 s8 s9 s10 s11 s12 s13 s14 s15 s16 s17 s18 s19 s20 hc hi hp a w hS
      obtain rfl : s14 = false := hi
      obtain rfl : s13 = true := hp 13 (by kernel_rfl)
      obtain rfl : s11 = true := hp 11 (by kernel_rfl)
      obtain ⟨bb3, bb4, bb5, hF, hM⟩ := hS
      refine eM 38 (v := .agg #[.int .i64 cn, .int .i64 cd]) hF hM (by kernel_rfl) (yld_call (f := 24) (args := #[.int .i8 n2, .int .u8 d2]) hF (by kernel_rfl) (fun _ => by kernel_rfl) (fun w hM => agg_to ec1 ec2 (small_w n2 d2 w (hT.below (Nat.le_refl _) hM.bel) (by omega)))) fun a w hF hM => ?_
      exact ⟨bb3, bb4, bb5, ((hF.repl 20 (by kernel_rfl)).cast (by kernel_rfl)), (hM.cast (by kernel_rfl))⟩
    · intro s0 s1 s2 s3 s4 s5 s6 s7 s8 s9 s10 s11 s12 s13 s14 s15 s16 s17 s18 s19 s20 hc hi hp a w hS
      obtain rfl : s15 = false := hi
      obtain rfl : s18 = false := hc.f 18 15 (by kernel_rfl) rfl
      obtain ⟨bb3, bb4, bb5, hF, hM⟩ := hS
      refine eN 5 3 (t := 23) (fun b => .pointer (some ⟨b, 0, none⟩)) #[.int .i64 0, .int .i64 0] hF hM (by kernel_rfl) (fun _ => by kernel_rfl) fun bb3 a w hF hM => ?_
      exact ⟨bb3, bb4, bb5, ((hF.repl 3 (by kernel_rfl)).cast (by kernel_rfl)), ((hM.repl 2 (by kernel_rfl)).cast (by kernel_rfl))⟩
    · intro s0 s1 s2 s3 s4 s5 s6 s7 s8 s9 s10 s11 s12 s13 s14 s15 s16 s17 s18 s19 s20 hc hi hp a w hS
      obtain rfl : s16 = false := hi
      obtain rfl : s19 = false := hc.f 19 16 (by kernel_rfl) rfl
      obtain ⟨bb3, bb4, bb5, hF, hM⟩ := hS
      refine eN 6 4 (t := 23) (fun b => .pointer (some ⟨b, 0, none⟩)) #[.int .i64 0, .int .i64 0] hF hM (by kernel_rfl) (fun _ => by kernel_rfl) fun bb4 a w hF hM => ?_
      exact ⟨bb3, bb4, bb5, ((hF.repl 4 (by kernel_rfl)).cast (by kernel_rfl)), ((hM.repl 3 (by kernel_rfl)).cast (by kernel_rfl))⟩
    · intro s0 s1 s2 s3 s4 s5 s6 s7 s8 s9 s10 s11 s12 s13 s14 s15 s16 s17 s18 s19 s20 hc hi hp a w hS
      obtain rfl : s17 = false := hi
      obtain rfl : s20 = false := hc.f 20 17 (by kernel_rfl) rfl
      obtain ⟨bb3, bb4, bb5, hF, hM⟩ := hS
      refine eN 7 5 (t := 23) (fun b => .pointer (some ⟨b, 0, none⟩)) #[.int .i64 0, .int .i64 0] hF hM (by kernel_rfl) (fun _ => by kernel_rfl) fun bb5 a w hF hM => ?_
      exact ⟨bb3, bb4, bb5, ((hF.repl 5 (by kernel_rfl)).cast (by kernel_rfl)), ((hM.repl 4 (by kernel_rfl)).cast (by kernel_rfl))⟩
    · intro s0 s1 s2 s3 s4 s5 s6 s7 s8 s9 s10 s11 s12 s13 s14 s15 s16 s17 s18 s19 s20 hc hi hp a w hS
      obtain rfl : s18 = false := hi
      obtain rfl : s15 = true := hp 15 (by kernel_rfl)
      obtain rfl : s4 = true := hp 4 (by kernel_rfl)
      obtain ⟨bb3, bb4, bb5, hF, hM⟩ := hS
      refine sStore (i := 3) (off := 0) (cs' := #[.int .i64 an, .int .i64 ad]) hF hM (by kernel_rfl) rfl rfl (by kernel_rfl) (by kernel_rfl) rfl (by kernel_rfl) fun w hM => ?_
      exact ⟨bb3, bb4, bb5, (hF.cast (by kernel_rfl)), ((hM.repl 2 (by kernel_rfl)).cast (by kernel_rfl))⟩
    · intro s0 s1 s2 s3 s4 s5 s6 s7 s8 s9 s10 s11 s12 s13 s14 s15 s16 s17 s18 s19 s20 hc hi hp a w hS
      obtain rfl : s19 = false := hi
      obtain rfl : s16 = true := hp 16 (by kernel_rfl)
      obtain rfl : s9 = true := hp 9 (by kernel_rfl)
      obtain ⟨bb3, bb4, bb5, hF, hM⟩ := hS
      refine sStore (i := 4) (off := 0) (cs' := #[.int .i64 bn, .int .i64 bd]) hF hM (by kernel_rfl) rfl rfl (by kernel_rfl) (by kernel_rfl) rfl (by kernel_rfl) fun w hM => ?_
      exact ⟨bb3, bb4, bb5, (hF.cast (by kernel_rfl)), ((hM.repl 3 (by kernel_rfl)).cast (by kernel_rfl))⟩
    · intro s0 s1 s2 s3 s4 s5 s6 s7 s8 s9 s10 s11 s12 s13 s14 s15 s16 s17 s18 s19 s20 hc hi hp a w hS
      obtain rfl : s20 = false := hi
      obtain rfl : s17 = true := hp 17 (by kernel_rfl)
      obtain rfl : s14 = true := hp 14 (by kernel_rfl)
      obtain ⟨bb3, bb4, bb5, hF, hM⟩ := hS
      refine sStore (i := 5) (off := 0) (cs' := #[.int .i64 cn, .int .i64 cd]) hF hM (by kernel_rfl) rfl rfl (by kernel_rfl) (by kernel_rfl) rfl (by kernel_rfl) fun w hM => ?_
      exact ⟨bb3, bb4, bb5, (hF.cast (by kernel_rfl)), ((hM.repl 4 (by kernel_rfl)).cast (by kernel_rfl))⟩
  · intro a w hS
    obtain ⟨bb3, bb4, bb5, hF, hM⟩ := hS
    replace hF : Fr 178 [(2, some (.pointer (some ⟨bb1, 0, none⟩))), (3, some (.pointer (some ⟨bb2, 0, none⟩))), (4, some (.bool false)), (5, some (.pointer (some ⟨bb3, 0, none⟩))), (6, some (.pointer (some ⟨bb4, 0, none⟩))), (7, some (.pointer (some ⟨bb5, 0, none⟩))), (24, some (.pointer (some ⟨bb1, 0, none⟩))), (25, some (.int .i8 n0)), (26, some (.pointer (some ⟨bb2, 0, none⟩))), (27, some (.int .u8 d0)), (28, some (.agg #[.int .i64 an, .int .i64 ad])), (29, some (.pointer (some ⟨bb1, 1, none⟩))), (30, some (.int .i8 n1)), (31, some (.pointer (some ⟨bb2, 1, none⟩))), (32, some (.int .u8 d1)), (33, some (.agg #[.int .i64 bn, .int .i64 bd])), (34, some (.pointer (some ⟨bb1, 2, none⟩))), (35, some (.int .i8 n2)), (36, some (.pointer (some ⟨bb2, 2, none⟩))), (37, some (.int .u8 d2)), (38, some (.agg #[.int .i64 cn, .int .i64 cd]))] a := hF.cast (by kernel_rfl)
    replace hM : Mem w0.heap.size w0 [(1, some (.row bb1 39 #[.int .i8 n0, .int .i8 n1, .int .i8 n2])), (2, some (.row bb2 40 #[.int .u8 d0, .int .u8 d1, .int .u8 d2])), (3, some (.row bb3 23 #[.int .i64 an, .int .i64 ad])), (4, some (.row bb4 23 #[.int .i64 bn, .int .i64 bd])), (5, some (.row bb5 23 #[.int .i64 cn, .int .i64 cd]))] w := hM.cast (by kernel_rfl)
    refine hK4 _ _ ?_
    refine wp_seq_k fun K5 hK5 => ?_
    refine wp_region_lit ?_
    refine wl (eL 40 3 0 (v := .agg #[.int .i64 an, .int .i64 ad]) hF hM (by kernel_rfl) rfl rfl (by kernel_rfl) (by kernel_rfl) fun a w hF hM => ?_)
    refine wl (eL 41 4 0 (v := .agg #[.int .i64 bn, .int .i64 bd]) hF hM (by kernel_rfl) rfl rfl (by kernel_rfl) (by kernel_rfl) fun a w hF hM => ?_)
    refine wl (eM 42 (v := .tuple #[.int .i64 xab, .int .i64 0]) hF hM (by kernel_rfl) (yld_call (f := 25) (args := #[.agg #[.int .i64 an, .int .i64 ad], .agg #[.int .i64 bn, .int .i64 bd]]) hF (by kernel_rfl) (fun _ => by kernel_rfl) (fun w hM => cmp_to hxab (raCmp_ok an ad bn bd w (hT.below (Nat.le_refl _) hM.bel) sa.1 sb.1))) fun a w hF hM => ?_)
    refine sB 5 [(39, .tuple #[.int .i64 xab, .int .i64 0]), (43, .int .i64 xab), (44, .int .i64 0), (8, .int .i64 xab), (9, .int .i64 0)] hF (by kernel_rfl) fun a hF => ?_
    refine wpList_nil ?_
    refine hK5 _ _ ?_
    refine wp_seq_k fun K6 hK6 => ?_
    refine wp_region_lit ?_
    refine wl (eL 46 4 0 (v := .agg #[.int .i64 bn, .int .i64 bd]) hF hM (by kernel_rfl) rfl rfl (by kernel_rfl) (by kernel_rfl) fun a w hF hM => ?_)
    refine wl (eL 47 3 0 (v := .agg #[.int .i64 an, .int .i64 ad]) hF hM (by kernel_rfl) rfl rfl (by kernel_rfl) (by kernel_rfl) fun a w hF hM => ?_)
    refine wl (eM 48 (v := .tuple #[.int .i64 xba, .int .i64 0]) hF hM (by kernel_rfl) (yld_call (f := 25) (args := #[.agg #[.int .i64 bn, .int .i64 bd], .agg #[.int .i64 an, .int .i64 ad]]) hF (by kernel_rfl) (fun _ => by kernel_rfl) (fun w hM => cmp_to (hba.trans hxba) (raCmp_ok bn bd an ad w (hT.below (Nat.le_refl _) hM.bel) sb.1 sa.1))) fun a w hF hM => ?_)
    refine sB 5 [(45, .tuple #[.int .i64 xba, .int .i64 0]), (49, .int .i64 xba), (50, .int .i64 0), (10, .int .i64 xba), (11, .int .i64 0)] hF (by kernel_rfl) fun a hF => ?_
    refine wpList_nil ?_
    refine hK6 _ _ ?_
    refine wp_seq_k fun K7 hK7 => ?_
    refine wp_region_lit ?_
    refine wl (eL 52 4 0 (v := .agg #[.int .i64 bn, .int .i64 bd]) hF hM (by kernel_rfl) rfl rfl (by kernel_rfl) (by kernel_rfl) fun a w hF hM => ?_)
    refine wl (eL 53 5 0 (v := .agg #[.int .i64 cn, .int .i64 cd]) hF hM (by kernel_rfl) rfl rfl (by kernel_rfl) (by kernel_rfl) fun a w hF hM => ?_)
    refine wl (eM 54 (v := .tuple #[.int .i64 xbc, .int .i64 0]) hF hM (by kernel_rfl) (yld_call (f := 25) (args := #[.agg #[.int .i64 bn, .int .i64 bd], .agg #[.int .i64 cn, .int .i64 cd]]) hF (by kernel_rfl) (fun _ => by kernel_rfl) (fun w hM => cmp_to hxbc (raCmp_ok bn bd cn cd w (hT.below (Nat.le_refl _) hM.bel) sb.1 sc.1))) fun a w hF hM => ?_)
    refine sB 5 [(51, .tuple #[.int .i64 xbc, .int .i64 0]), (55, .int .i64 xbc), (56, .int .i64 0), (12, .int .i64 xbc), (13, .int .i64 0)] hF (by kernel_rfl) fun a hF => ?_
    refine wpList_nil ?_
    refine hK7 _ _ ?_
    refine wp_seq_k fun K8 hK8 => ?_
    refine wp_region_lit ?_
    refine wl (eL 58 3 0 (v := .agg #[.int .i64 an, .int .i64 ad]) hF hM (by kernel_rfl) rfl rfl (by kernel_rfl) (by kernel_rfl) fun a w hF hM => ?_)
    refine wl (eL 59 5 0 (v := .agg #[.int .i64 cn, .int .i64 cd]) hF hM (by kernel_rfl) rfl rfl (by kernel_rfl) (by kernel_rfl) fun a w hF hM => ?_)
    refine wl (eM 60 (v := .tuple #[.int .i64 xac, .int .i64 0]) hF hM (by kernel_rfl) (yld_call (f := 25) (args := #[.agg #[.int .i64 an, .int .i64 ad], .agg #[.int .i64 cn, .int .i64 cd]]) hF (by kernel_rfl) (fun _ => by kernel_rfl) (fun w hM => cmp_to hxac (raCmp_ok an ad cn cd w (hT.below (Nat.le_refl _) hM.bel) sa.1 sc.1))) fun a w hF hM => ?_)
    refine sB 5 [(57, .tuple #[.int .i64 xac, .int .i64 0]), (61, .int .i64 xac), (62, .int .i64 0), (14, .int .i64 xac), (15, .int .i64 0)] hF (by kernel_rfl) fun a hF => ?_
    refine wpList_nil ?_
    refine hK8 _ _ ?_
    refine wp_seq_k fun K9 hK9 => ?_
    refine wp_region_lit ?_
    refine wl (eL 64 3 0 (v := .agg #[.int .i64 an, .int .i64 ad]) hF hM (by kernel_rfl) rfl rfl (by kernel_rfl) (by kernel_rfl) fun a w hF hM => ?_)
    refine wl (eL 65 4 0 (v := .agg #[.int .i64 bn, .int .i64 bd]) hF hM (by kernel_rfl) rfl rfl (by kernel_rfl) (by kernel_rfl) fun a w hF hM => ?_)
    refine wl (eM 66 (v := .tuple #[.agg #[.int .i64 dN, .int .i64 dD], .int .i64 0]) hF hM (by kernel_rfl) (yld_call (f := 18) (args := #[.agg #[.int .i64 an, .int .i64 ad], .agg #[.int .i64 bn, .int .i64 bd]]) hF (by kernel_rfl) (fun _ => by kernel_rfl) (fun w hM => i1.to (raSub_ok an ad bn bd w (hT.below (Nat.le_refl _) hM.bel) sa.1 sb.1))) fun a w hF hM => ?_)
    refine sB 3 [(63, .tuple #[.agg #[.int .i64 dN, .int .i64 dD], .int .i64 0]), (67, .agg #[.int .i64 dN, .int .i64 dD]), (68, .int .i64 0)] hF (by kernel_rfl) fun a hF => ?_
    refine wl (eN 16 6 (t := 23) (fun b => .pointer (some ⟨b, 0, none⟩)) #[.int .i64 0, .int .i64 0] hF hM (by kernel_rfl) (fun _ => by kernel_rfl) fun bb6 a w hF hM => ?_)
    refine wl (sStore (i := 6) (off := 0) (cs' := #[.int .i64 dN, .int .i64 dD]) hF hM (by kernel_rfl) rfl rfl (by kernel_rfl) (by kernel_rfl) rfl (by kernel_rfl) fun w hM => ?_)
    refine sB 1 [(17, .int .i64 0)] hF (by kernel_rfl) fun a hF => ?_
    refine wpList_nil ?_
    refine hK9 _ _ ?_
    refine wp_seq_k fun K10 hK10 => ?_
    refine wp_region_lit ?_
    refine wl (eL 70 3 0 (v := .agg #[.int .i64 an, .int .i64 ad]) hF hM (by kernel_rfl) rfl rfl (by kernel_rfl) (by kernel_rfl) fun a w hF hM => ?_)
    refine wl (eM 71 (v := .tuple #[.int .i64 lo, .int .i64 0]) hF hM (by kernel_rfl) (yld_call (f := 26) (args := #[.agg #[.int .i64 an, .int .i64 ad]]) hF (by kernel_rfl) (fun _ => by kernel_rfl) (fun w hM => cmp_to hlo (raFloor_ok an ad w (hT.below (Nat.le_refl _) hM.bel) sa.1))) fun a w hF hM => ?_)
    refine sB 5 [(69, .tuple #[.int .i64 lo, .int .i64 0]), (72, .int .i64 lo), (73, .int .i64 0), (18, .int .i64 lo), (19, .int .i64 0)] hF (by kernel_rfl) fun a hF => ?_
    refine wpList_nil ?_
    refine hK10 _ _ ?_
    refine wp_seq_k fun K11 hK11 => ?_
    refine wp_region_lit ?_
    refine wl (eL 75 3 0 (v := .agg #[.int .i64 an, .int .i64 ad]) hF hM (by kernel_rfl) rfl rfl (by kernel_rfl) (by kernel_rfl) fun a w hF hM => ?_)
    refine wl (eM 76 (v := .tuple #[.int .i64 hi, .int .i64 0]) hF hM (by kernel_rfl) (yld_call (f := 27) (args := #[.agg #[.int .i64 an, .int .i64 ad]]) hF (by kernel_rfl) (fun _ => by kernel_rfl) (fun w hM => cmp_to hhi (raCeil_ok an ad w (hT.below (Nat.le_refl _) hM.bel) sa.1))) fun a w hF hM => ?_)
    refine sB 5 [(74, .tuple #[.int .i64 hi, .int .i64 0]), (77, .int .i64 hi), (78, .int .i64 0), (20, .int .i64 hi), (21, .int .i64 0)] hF (by kernel_rfl) fun a hF => ?_
    refine wpList_nil ?_
    refine hK11 _ _ ?_
    refine wp_seq_k fun K12 hK12 => ?_
    refine wp_seq_k fun K13 hK13 => ?_
    by_cases hz1 : xab = 0
    · skip
      by_cases hz2 : [an, ad] = [bn, bd]
      · skip
        refine wp_region_lit ?_
        refine sB 1 [(79, .int .i64 0)] hF (by kernel_rfl) fun a hF => ?_
        refine wl (eP 80 (v0 := .bool (!decide (0 = 0))) (v := .bool false) hF (by kernel_rfl) (fun _ => by kernel_rfl) (nT (by omega)) fun a hF => ?_)
        refine sB 2 [(81, .bool false), (82, .int .i64 0)] hF (by kernel_rfl) fun a hF => ?_
        refine wl (eP 83 (v0 := .bool (!decide (0 = 0))) (v := .bool false) hF (by kernel_rfl) (fun _ => by kernel_rfl) (nT (by omega)) fun a hF => ?_)
        refine sB 3 [(84, .bool false), (85, .bool false), (86, .int .i64 0)] hF (by kernel_rfl) fun a hF => ?_
        refine wl (eP 87 (v0 := .bool (!decide (0 = 0))) (v := .bool false) hF (by kernel_rfl) (fun _ => by kernel_rfl) (nT (by omega)) fun a hF => ?_)
        refine sB 3 [(88, .bool false), (89, .bool false), (90, .int .i64 0)] hF (by kernel_rfl) fun a hF => ?_
        refine wl (eP 91 (v0 := .bool (!decide (0 = 0))) (v := .bool false) hF (by kernel_rfl) (fun _ => by kernel_rfl) (nT (by omega)) fun a hF => ?_)
        refine sB 3 [(92, .bool false), (93, .bool false), (94, .int .i64 0)] hF (by kernel_rfl) fun a hF => ?_
        refine wl (eP 95 (v0 := .bool (!decide (0 = 0))) (v := .bool false) hF (by kernel_rfl) (fun _ => by kernel_rfl) (nT (by omega)) fun a hF => ?_)
        refine sB 3 [(96, .bool false), (97, .bool false), (98, .int .i64 0)] hF (by kernel_rfl) fun a hF => ?_
        refine wl (eP 99 (v0 := .bool (!decide (0 = 0))) (v := .bool false) hF (by kernel_rfl) (fun _ => by kernel_rfl) (nT (by omega)) fun a hF => ?_)
        refine sB 3 [(100, .bool false), (101, .bool false), (102, .int .i64 0)] hF (by kernel_rfl) fun a hF => ?_
        refine wl (eP 103 (v0 := .bool (!decide (0 = 0))) (v := .bool false) hF (by kernel_rfl) (fun _ => by kernel_rfl) (nT (by omega)) fun a hF => ?_)
        refine sB 4 [(104, .bool false), (105, .bool false), (106, .int .i64 xab), (107, .int .i64 xba)] hF (by kernel_rfl) fun a hF => ?_
        refine wl (eP 108 (v0 := .int .i64 (IntKind.i64.wrap (0 - xba))) (v := .int .i64 (-xba)) hF (by kernel_rfl) (fun _ => by kernel_rfl) (vi (by rw [Int.zero_sub]; exact (w64 (by omega)))) fun a hF => ?_)
        refine wl (eP 109 (v0 := .bool (!decide (xab = -xba))) (v := .bool false) hF (by kernel_rfl) (fun _ => by kernel_rfl) (nT (by omega)) fun a hF => ?_)
        refine sB 3 [(110, .bool false), (111, .bool false), (112, .int .i64 xab)] hF (by kernel_rfl) fun a hF => ?_
        refine wl (eP 113 (v0 := .bool (decide (xab = 0))) (v := .bool true) hF (by kernel_rfl) (fun _ => by kernel_rfl) (bT hz1) fun a hF => ?_)
        refine wl (eL 114 3 0 (v := .agg #[.int .i64 an, .int .i64 ad]) hF hM (by kernel_rfl) rfl rfl (by kernel_rfl) (by kernel_rfl) fun a w hF hM => ?_)
        refine wl (eL 115 4 0 (v := .agg #[.int .i64 bn, .int .i64 bd]) hF hM (by kernel_rfl) rfl rfl (by kernel_rfl) (by kernel_rfl) fun a w hF hM => ?_)
        refine wl (eM 116 (v := .bool true) hF hM (by kernel_rfl) ((yld_eql (C := Mem _ _ _) [an, ad] [bn, bd] hF rfl (by kernel_rfl) (by kernel_rfl) (by kernel_rfl) rfl (by kernel_rfl) (by kernel_rfl) (by kernel_rfl) rfl rfl).to (bT hz2)) fun a w hF hM => ?_)
        refine sB 2 [(117, .bool false), (118, .bool false)] hF (by kernel_rfl) fun a hF => ?_
        refine wpList_nil ?_
        refine hK13 _ _ ?_
        refine cF hF (by kernel_rfl) (by kernel_rfl) ?_
        refine wp_skip ?_
        refine hK12 _ _ ?_
        refine wp_seq_k fun K14 hK14 => ?_
        refine wp_seq_k fun K15 hK15 => ?_
        by_cases hz3 : xbc ≤ 0
        · skip
          have hz4 := htr (by omega) (by omega)
          refine wp_region_lit ?_
          refine sB 1 [(119, .int .i64 xab)] hF (by kernel_rfl) fun a hF => ?_
          refine wl (eP 120 (v0 := .bool (decide (xab < 0))) (v := .bool false) hF (by kernel_rfl) (fun _ => by kernel_rfl) (bF (by omega)) fun a hF => ?_)
          refine sB 7 [(121, .bool false), (122, undef), (123, undef), (124, undef), (125, .bool false), (126, .bool false), (127, .int .i64 xab)] hF (by kernel_rfl) fun a hF => ?_
          refine wl (eP 128 (v0 := .bool (decide (0 < xab))) (v := .bool false) hF (by kernel_rfl) (fun _ => by kernel_rfl) (bF (by omega)) fun a hF => ?_)
          refine sB 8 [(129, .bool false), (130, undef), (131, undef), (132, undef), (133, .bool false), (134, .bool false), (135, .bool false), (136, .int .i64 xab)] hF (by kernel_rfl) fun a hF => ?_
          refine wl (eP 137 (v0 := .bool (decide (xab ≤ 0))) (v := .bool true) hF (by kernel_rfl) (fun _ => by kernel_rfl) (bT (by omega)) fun a hF => ?_)
          refine sB 2 [(138, .bool true), (139, .int .i64 xbc)] hF (by kernel_rfl) fun a hF => ?_
          refine wl (eP 140 (v0 := .bool (decide (xbc ≤ 0))) (v := .bool true) hF (by kernel_rfl) (fun _ => by kernel_rfl) (bT hz3) fun a hF => ?_)
          refine sB 3 [(141, .bool true), (142, .bool true), (143, .int .i64 xac)] hF (by kernel_rfl) fun a hF => ?_
          refine wl (eP 144 (v0 := .bool (decide (0 < xac))) (v := .bool false) hF (by kernel_rfl) (fun _ => by kernel_rfl) (bF (by omega)) fun a hF => ?_)
          refine sB 2 [(145, .bool false), (146, .bool false)] hF (by kernel_rfl) fun a hF => ?_
          refine wpList_nil ?_
          refine hK15 _ _ ?_
          refine cF hF (by kernel_rfl) (by kernel_rfl) ?_
          refine wp_skip ?_
          refine hK14 _ _ ?_
          refine wp_seq_k fun K16 hK16 => ?_
          by_cases hz7 : hi = lo
          · skip
            by_cases hz10 : ad = 1
            · skip
              refine wp_region_lit ?_
              refine sB 2 [(147, .int .i64 lo), (148, .pointer (some ⟨bb3, 1, none⟩))] hF (by kernel_rfl) fun a hF => ?_
              refine wl (eL 149 3 1 (v := .int .i64 ad) hF hM (by kernel_rfl) rfl rfl (by kernel_rfl) (by kernel_rfl) fun a w hF hM => ?_)
              have hz11 : -1125899906842624 ≤ lo * ad ∧ lo * ad ≤ 1125899906842624 := mul_bd (-1125899906842624) (1125899906842624) (1) (1) (by omega) (by omega) (by omega) (by omega) (by decide)
              refine wl (eP 150 (v0 := .int .i64 (IntKind.i64.wrap (lo * ad))) (v := .int .i64 (lo * ad)) hF (by kernel_rfl) (fun _ => by kernel_rfl) (wi (by omega)) fun a hF => ?_)
              refine sB 1 [(151, .pointer (some ⟨bb3, 0, none⟩))] hF (by kernel_rfl) fun a hF => ?_
              refine wl (eL 152 3 0 (v := .int .i64 an) hF hM (by kernel_rfl) rfl rfl (by kernel_rfl) (by kernel_rfl) fun a w hF hM => ?_)
              refine wl (eP 153 (v0 := .bool (decide (lo * ad ≤ an))) (v := .bool true) hF (by kernel_rfl) (fun _ => by kernel_rfl) (bT (by omega)) fun a hF => ?_)
              refine sB 3 [(154, .bool true), (155, .int .i64 hi), (156, .pointer (some ⟨bb3, 1, none⟩))] hF (by kernel_rfl) fun a hF => ?_
              refine wl (eL 157 3 1 (v := .int .i64 ad) hF hM (by kernel_rfl) rfl rfl (by kernel_rfl) (by kernel_rfl) fun a w hF hM => ?_)
              have hz12 : -1125899906842624 ≤ hi * ad ∧ hi * ad ≤ 1125899906842624 := mul_bd (-1125899906842624) (1125899906842624) (1) (1) (by omega) (by omega) (by omega) (by omega) (by decide)
              refine wl (eP 158 (v0 := .int .i64 (IntKind.i64.wrap (hi * ad))) (v := .int .i64 (hi * ad)) hF (by kernel_rfl) (fun _ => by kernel_rfl) (wi (by omega)) fun a hF => ?_)
              refine sB 1 [(159, .pointer (some ⟨bb3, 0, none⟩))] hF (by kernel_rfl) fun a hF => ?_
              refine wl (eL 160 3 0 (v := .int .i64 an) hF hM (by kernel_rfl) rfl rfl (by kernel_rfl) (by kernel_rfl) fun a w hF hM => ?_)
              refine wl (eP 161 (v0 := .bool (decide (an ≤ hi * ad))) (v := .bool true) hF (by kernel_rfl) (fun _ => by kernel_rfl) (bT (by omega)) fun a hF => ?_)
              refine sB 4 [(162, .bool true), (163, .bool true), (164, .int .i64 hi), (165, .int .i64 lo)] hF (by kernel_rfl) fun a hF => ?_
              refine wl (eP 166 (v0 := .int .i64 (IntKind.i64.wrap (hi - lo))) (v := .int .i64 (hi - lo)) hF (by kernel_rfl) (fun _ => by kernel_rfl) (wi (by omega)) fun a hF => ?_)
              refine wl (eP 167 (v0 := .bool (decide (hi - lo ≤ 1))) (v := .bool true) hF (by kernel_rfl) (fun _ => by kernel_rfl) (bT (by omega)) fun a hF => ?_)
              refine sB 4 [(168, .bool true), (169, .bool true), (170, .int .i64 hi), (171, .int .i64 lo)] hF (by kernel_rfl) fun a hF => ?_
              refine wl (eP 172 (v0 := .bool (decide (hi = lo))) (v := .bool true) hF (by kernel_rfl) (fun _ => by kernel_rfl) (bT hz7) fun a hF => ?_)
              refine sB 1 [(173, .pointer (some ⟨bb3, 1, none⟩))] hF (by kernel_rfl) fun a hF => ?_
              refine wl (eL 174 3 1 (v := .int .i64 ad) hF hM (by kernel_rfl) rfl rfl (by kernel_rfl) (by kernel_rfl) fun a w hF hM => ?_)
              refine wl (eP 175 (v0 := .bool (decide (ad = 1))) (v := .bool true) hF (by kernel_rfl) (fun _ => by kernel_rfl) (bT hz10) fun a hF => ?_)
              refine sB 3 [(176, .bool true), (177, .bool true), (4, .bool true)] hF (by kernel_rfl) fun a hF => ?_
              refine wpList_nil ?_
              refine hK16 _ _ ?_
              refine wp_ret ?_
              refine hR0 _ _ ?_
              refine ret_of hF hM (.tmp rfl (.nil)) ?_
              exact ⟨rfl, hM.bel⟩
            · skip
              exact absurd (hfl.2.2.2.2.1.1 hz7) hz10
          · skip
            by_cases hz15 : ad = 1
            · skip
              exact absurd (hfl.2.2.2.2.1.2 hz15) hz7
            · skip
              refine wp_region_lit ?_
              refine sB 2 [(147, .int .i64 lo), (148, .pointer (some ⟨bb3, 1, none⟩))] hF (by kernel_rfl) fun a hF => ?_
              refine wl (eL 149 3 1 (v := .int .i64 ad) hF hM (by kernel_rfl) rfl rfl (by kernel_rfl) (by kernel_rfl) fun a w hF hM => ?_)
              have hz16 : -33776997205278720 ≤ lo * ad ∧ lo * ad ≤ 33776997205278720 := mul_bd (-1125899906842624) (1125899906842624) (1) (30) (by omega) (by omega) (by omega) (by omega) (by decide)
              refine wl (eP 150 (v0 := .int .i64 (IntKind.i64.wrap (lo * ad))) (v := .int .i64 (lo * ad)) hF (by kernel_rfl) (fun _ => by kernel_rfl) (wi (by omega)) fun a hF => ?_)
              refine sB 1 [(151, .pointer (some ⟨bb3, 0, none⟩))] hF (by kernel_rfl) fun a hF => ?_
              refine wl (eL 152 3 0 (v := .int .i64 an) hF hM (by kernel_rfl) rfl rfl (by kernel_rfl) (by kernel_rfl) fun a w hF hM => ?_)
              refine wl (eP 153 (v0 := .bool (decide (lo * ad ≤ an))) (v := .bool true) hF (by kernel_rfl) (fun _ => by kernel_rfl) (bT (by omega)) fun a hF => ?_)
              refine sB 3 [(154, .bool true), (155, .int .i64 hi), (156, .pointer (some ⟨bb3, 1, none⟩))] hF (by kernel_rfl) fun a hF => ?_
              refine wl (eL 157 3 1 (v := .int .i64 ad) hF hM (by kernel_rfl) rfl rfl (by kernel_rfl) (by kernel_rfl) fun a w hF hM => ?_)
              have hz17 : -33776997205278720 ≤ hi * ad ∧ hi * ad ≤ 33776997205278750 := mul_bd (-1125899906842624) (1125899906842625) (1) (30) (by omega) (by omega) (by omega) (by omega) (by decide)
              refine wl (eP 158 (v0 := .int .i64 (IntKind.i64.wrap (hi * ad))) (v := .int .i64 (hi * ad)) hF (by kernel_rfl) (fun _ => by kernel_rfl) (wi (by omega)) fun a hF => ?_)
              refine sB 1 [(159, .pointer (some ⟨bb3, 0, none⟩))] hF (by kernel_rfl) fun a hF => ?_
              refine wl (eL 160 3 0 (v := .int .i64 an) hF hM (by kernel_rfl) rfl rfl (by kernel_rfl) (by kernel_rfl) fun a w hF hM => ?_)
              refine wl (eP 161 (v0 := .bool (decide (an ≤ hi * ad))) (v := .bool true) hF (by kernel_rfl) (fun _ => by kernel_rfl) (bT (by omega)) fun a hF => ?_)
              refine sB 4 [(162, .bool true), (163, .bool true), (164, .int .i64 hi), (165, .int .i64 lo)] hF (by kernel_rfl) fun a hF => ?_
              refine wl (eP 166 (v0 := .int .i64 (IntKind.i64.wrap (hi - lo))) (v := .int .i64 (hi - lo)) hF (by kernel_rfl) (fun _ => by kernel_rfl) (wi (by omega)) fun a hF => ?_)
              refine wl (eP 167 (v0 := .bool (decide (hi - lo ≤ 1))) (v := .bool true) hF (by kernel_rfl) (fun _ => by kernel_rfl) (bT (by omega)) fun a hF => ?_)
              refine sB 4 [(168, .bool true), (169, .bool true), (170, .int .i64 hi), (171, .int .i64 lo)] hF (by kernel_rfl) fun a hF => ?_
              refine wl (eP 172 (v0 := .bool (decide (hi = lo))) (v := .bool false) hF (by kernel_rfl) (fun _ => by kernel_rfl) (bF hz7) fun a hF => ?_)
              refine sB 1 [(173, .pointer (some ⟨bb3, 1, none⟩))] hF (by kernel_rfl) fun a hF => ?_
              refine wl (eL 174 3 1 (v := .int .i64 ad) hF hM (by kernel_rfl) rfl rfl (by kernel_rfl) (by kernel_rfl) fun a w hF hM => ?_)
              refine wl (eP 175 (v0 := .bool (decide (ad = 1))) (v := .bool false) hF (by kernel_rfl) (fun _ => by kernel_rfl) (bF hz15) fun a hF => ?_)
              refine sB 3 [(176, .bool true), (177, .bool true), (4, .bool true)] hF (by kernel_rfl) fun a hF => ?_
              refine wpList_nil ?_
              refine hK16 _ _ ?_
              refine wp_ret ?_
              refine hR0 _ _ ?_
              refine ret_of hF hM (.tmp rfl (.nil)) ?_
              exact ⟨rfl, hM.bel⟩
        · skip
          refine wp_region_lit ?_
          refine sB 1 [(119, .int .i64 xab)] hF (by kernel_rfl) fun a hF => ?_
          refine wl (eP 120 (v0 := .bool (decide (xab < 0))) (v := .bool false) hF (by kernel_rfl) (fun _ => by kernel_rfl) (bF (by omega)) fun a hF => ?_)
          refine sB 7 [(121, .bool false), (122, undef), (123, undef), (124, undef), (125, .bool false), (126, .bool false), (127, .int .i64 xab)] hF (by kernel_rfl) fun a hF => ?_
          refine wl (eP 128 (v0 := .bool (decide (0 < xab))) (v := .bool false) hF (by kernel_rfl) (fun _ => by kernel_rfl) (bF (by omega)) fun a hF => ?_)
          refine sB 8 [(129, .bool false), (130, undef), (131, undef), (132, undef), (133, .bool false), (134, .bool false), (135, .bool false), (136, .int .i64 xab)] hF (by kernel_rfl) fun a hF => ?_
          refine wl (eP 137 (v0 := .bool (decide (xab ≤ 0))) (v := .bool true) hF (by kernel_rfl) (fun _ => by kernel_rfl) (bT (by omega)) fun a hF => ?_)
          refine sB 2 [(138, .bool true), (139, .int .i64 xbc)] hF (by kernel_rfl) fun a hF => ?_
          refine wl (eP 140 (v0 := .bool (decide (xbc ≤ 0))) (v := .bool false) hF (by kernel_rfl) (fun _ => by kernel_rfl) (bF hz3) fun a hF => ?_)
          refine sB 6 [(141, .bool false), (142, .bool false), (143, undef), (144, undef), (145, .bool false), (146, .bool false)] hF (by kernel_rfl) fun a hF => ?_
          refine wpList_nil ?_
          refine hK15 _ _ ?_
          refine cF hF (by kernel_rfl) (by kernel_rfl) ?_
          refine wp_skip ?_
          refine hK14 _ _ ?_
          refine wp_seq_k fun K17 hK17 => ?_
          by_cases hz20 : hi = lo
          · skip
            by_cases hz23 : ad = 1
            · skip
              refine wp_region_lit ?_
              refine sB 2 [(147, .int .i64 lo), (148, .pointer (some ⟨bb3, 1, none⟩))] hF (by kernel_rfl) fun a hF => ?_
              refine wl (eL 149 3 1 (v := .int .i64 ad) hF hM (by kernel_rfl) rfl rfl (by kernel_rfl) (by kernel_rfl) fun a w hF hM => ?_)
              have hz24 : -1125899906842624 ≤ lo * ad ∧ lo * ad ≤ 1125899906842624 := mul_bd (-1125899906842624) (1125899906842624) (1) (1) (by omega) (by omega) (by omega) (by omega) (by decide)
              refine wl (eP 150 (v0 := .int .i64 (IntKind.i64.wrap (lo * ad))) (v := .int .i64 (lo * ad)) hF (by kernel_rfl) (fun _ => by kernel_rfl) (wi (by omega)) fun a hF => ?_)
              refine sB 1 [(151, .pointer (some ⟨bb3, 0, none⟩))] hF (by kernel_rfl) fun a hF => ?_
              refine wl (eL 152 3 0 (v := .int .i64 an) hF hM (by kernel_rfl) rfl rfl (by kernel_rfl) (by kernel_rfl) fun a w hF hM => ?_)
              refine wl (eP 153 (v0 := .bool (decide (lo * ad ≤ an))) (v := .bool true) hF (by kernel_rfl) (fun _ => by kernel_rfl) (bT (by omega)) fun a hF => ?_)
              refine sB 3 [(154, .bool true), (155, .int .i64 hi), (156, .pointer (some ⟨bb3, 1, none⟩))] hF (by kernel_rfl) fun a hF => ?_
              refine wl (eL 157 3 1 (v := .int .i64 ad) hF hM (by kernel_rfl) rfl rfl (by kernel_rfl) (by kernel_rfl) fun a w hF hM => ?_)
              have hz25 : -1125899906842624 ≤ hi * ad ∧ hi * ad ≤ 1125899906842624 := mul_bd (-1125899906842624) (1125899906842624) (1) (1) (by omega) (by omega) (by omega) (by omega) (by decide)
              refine wl (eP 158 (v0 := .int .i64 (IntKind.i64.wrap (hi * ad))) (v := .int .i64 (hi * ad)) hF (by kernel_rfl) (fun _ => by kernel_rfl) (wi (by omega)) fun a hF => ?_)
              refine sB 1 [(159, .pointer (some ⟨bb3, 0, none⟩))] hF (by kernel_rfl) fun a hF => ?_
              refine wl (eL 160 3 0 (v := .int .i64 an) hF hM (by kernel_rfl) rfl rfl (by kernel_rfl) (by kernel_rfl) fun a w hF hM => ?_)
              refine wl (eP 161 (v0 := .bool (decide (an ≤ hi * ad))) (v := .bool true) hF (by kernel_rfl) (fun _ => by kernel_rfl) (bT (by omega)) fun a hF => ?_)
              refine sB 4 [(162, .bool true), (163, .bool true), (164, .int .i64 hi), (165, .int .i64 lo)] hF (by kernel_rfl) fun a hF => ?_
              refine wl (eP 166 (v0 := .int .i64 (IntKind.i64.wrap (hi - lo))) (v := .int .i64 (hi - lo)) hF (by kernel_rfl) (fun _ => by kernel_rfl) (wi (by omega)) fun a hF => ?_)
              refine wl (eP 167 (v0 := .bool (decide (hi - lo ≤ 1))) (v := .bool true) hF (by kernel_rfl) (fun _ => by kernel_rfl) (bT (by omega)) fun a hF => ?_)
              refine sB 4 [(168, .bool true), (169, .bool true), (170, .int .i64 hi), (171, .int .i64 lo)] hF (by kernel_rfl) fun a hF => ?_
              refine wl (eP 172 (v0 := .bool (decide (hi = lo))) (v := .bool true) hF (by kernel_rfl) (fun _ => by kernel_rfl) (bT hz20) fun a hF => ?_)
              refine sB 1 [(173, .pointer (some ⟨bb3, 1, none⟩))] hF (by kernel_rfl) fun a hF => ?_
              refine wl (eL 174 3 1 (v := .int .i64 ad) hF hM (by kernel_rfl) rfl rfl (by kernel_rfl) (by kernel_rfl) fun a w hF hM => ?_)
              refine wl (eP 175 (v0 := .bool (decide (ad = 1))) (v := .bool true) hF (by kernel_rfl) (fun _ => by kernel_rfl) (bT hz23) fun a hF => ?_)
              refine sB 3 [(176, .bool true), (177, .bool true), (4, .bool true)] hF (by kernel_rfl) fun a hF => ?_
              refine wpList_nil ?_
              refine hK17 _ _ ?_
              refine wp_ret ?_
              refine hR0 _ _ ?_
              refine ret_of hF hM (.tmp rfl (.nil)) ?_
              exact ⟨rfl, hM.bel⟩
            · skip
              exact absurd (hfl.2.2.2.2.1.1 hz20) hz23
          · skip
            by_cases hz28 : ad = 1
            · skip
              exact absurd (hfl.2.2.2.2.1.2 hz28) hz20
            · skip
              refine wp_region_lit ?_
              refine sB 2 [(147, .int .i64 lo), (148, .pointer (some ⟨bb3, 1, none⟩))] hF (by kernel_rfl) fun a hF => ?_
              refine wl (eL 149 3 1 (v := .int .i64 ad) hF hM (by kernel_rfl) rfl rfl (by kernel_rfl) (by kernel_rfl) fun a w hF hM => ?_)
              have hz29 : -33776997205278720 ≤ lo * ad ∧ lo * ad ≤ 33776997205278720 := mul_bd (-1125899906842624) (1125899906842624) (1) (30) (by omega) (by omega) (by omega) (by omega) (by decide)
              refine wl (eP 150 (v0 := .int .i64 (IntKind.i64.wrap (lo * ad))) (v := .int .i64 (lo * ad)) hF (by kernel_rfl) (fun _ => by kernel_rfl) (wi (by omega)) fun a hF => ?_)
              refine sB 1 [(151, .pointer (some ⟨bb3, 0, none⟩))] hF (by kernel_rfl) fun a hF => ?_
              refine wl (eL 152 3 0 (v := .int .i64 an) hF hM (by kernel_rfl) rfl rfl (by kernel_rfl) (by kernel_rfl) fun a w hF hM => ?_)
              refine wl (eP 153 (v0 := .bool (decide (lo * ad ≤ an))) (v := .bool true) hF (by kernel_rfl) (fun _ => by kernel_rfl) (bT (by omega)) fun a hF => ?_)
              refine sB 3 [(154, .bool true), (155, .int .i64 hi), (156, .pointer (some ⟨bb3, 1, none⟩))] hF (by kernel_rfl) fun a hF => ?_
              refine wl (eL 157 3 1 (v := .int .i64 ad) hF hM (by kernel_rfl) rfl rfl (by kernel_rfl) (by kernel_rfl) fun a w hF hM => ?_)
              have hz30 : -33776997205278720 ≤ hi * ad ∧ hi * ad ≤ 33776997205278750 := mul_bd (-1125899906842624) (1125899906842625) (1) (30) (by omega) (by omega) (by omega) (by omega) (by decide)
              refine wl (eP 158 (v0 := .int .i64 (IntKind.i64.wrap (hi * ad))) (v := .int .i64 (hi * ad)) hF (by kernel_rfl) (fun _ => by kernel_rfl) (wi (by omega)) fun a hF => ?_)
              refine sB 1 [(159, .pointer (some ⟨bb3, 0, none⟩))] hF (by kernel_rfl) fun a hF => ?_
              refine wl (eL 160 3 0 (v := .int .i64 an) hF hM (by kernel_rfl) rfl rfl (by kernel_rfl) (by kernel_rfl) fun a w hF hM => ?_)
              refine wl (eP 161 (v0 := .bool (decide (an ≤ hi * ad))) (v := .bool true) hF (by kernel_rfl) (fun _ => by kernel_rfl) (bT (by omega)) fun a hF => ?_)
              refine sB 4 [(162, .bool true), (163, .bool true), (164, .int .i64 hi), (165, .int .i64 lo)] hF (by kernel_rfl) fun a hF => ?_
              refine wl (eP 166 (v0 := .int .i64 (IntKind.i64.wrap (hi - lo))) (v := .int .i64 (hi - lo)) hF (by kernel_rfl) (fun _ => by kernel_rfl) (wi (by omega)) fun a hF => ?_)
              refine wl (eP 167 (v0 := .bool (decide (hi - lo ≤ 1))) (v := .bool true) hF (by kernel_rfl) (fun _ => by kernel_rfl) (bT (by omega)) fun a hF => ?_)
              refine sB 4 [(168, .bool true), (169, .bool true), (170, .int .i64 hi), (171, .int .i64 lo)] hF (by kernel_rfl) fun a hF => ?_
              refine wl (eP 172 (v0 := .bool (decide (hi = lo))) (v := .bool false) hF (by kernel_rfl) (fun _ => by kernel_rfl) (bF hz20) fun a hF => ?_)
              refine sB 1 [(173, .pointer (some ⟨bb3, 1, none⟩))] hF (by kernel_rfl) fun a hF => ?_
              refine wl (eL 174 3 1 (v := .int .i64 ad) hF hM (by kernel_rfl) rfl rfl (by kernel_rfl) (by kernel_rfl) fun a w hF hM => ?_)
              refine wl (eP 175 (v0 := .bool (decide (ad = 1))) (v := .bool false) hF (by kernel_rfl) (fun _ => by kernel_rfl) (bF hz28) fun a hF => ?_)
              refine sB 3 [(176, .bool true), (177, .bool true), (4, .bool true)] hF (by kernel_rfl) fun a hF => ?_
              refine wpList_nil ?_
              refine hK17 _ _ ?_
              refine wp_ret ?_
              refine hR0 _ _ ?_
              refine ret_of hF hM (.tmp rfl (.nil)) ?_
              exact ⟨rfl, hM.bel⟩
      · skip
        exact absurd (by rw [(hz.1 hz1).1, (hz.1 hz1).2]) hz2
    · skip
      by_cases hz31 : [an, ad] = [bn, bd]
      · skip
        exact absurd (hz.2 (by simpa using hz31)) hz1
      · skip
        refine wp_region_lit ?_
        refine sB 1 [(79, .int .i64 0)] hF (by kernel_rfl) fun a hF => ?_
        refine wl (eP 80 (v0 := .bool (!decide (0 = 0))) (v := .bool false) hF (by kernel_rfl) (fun _ => by kernel_rfl) (nT (by omega)) fun a hF => ?_)
        refine sB 2 [(81, .bool false), (82, .int .i64 0)] hF (by kernel_rfl) fun a hF => ?_
        refine wl (eP 83 (v0 := .bool (!decide (0 = 0))) (v := .bool false) hF (by kernel_rfl) (fun _ => by kernel_rfl) (nT (by omega)) fun a hF => ?_)
        refine sB 3 [(84, .bool false), (85, .bool false), (86, .int .i64 0)] hF (by kernel_rfl) fun a hF => ?_
        refine wl (eP 87 (v0 := .bool (!decide (0 = 0))) (v := .bool false) hF (by kernel_rfl) (fun _ => by kernel_rfl) (nT (by omega)) fun a hF => ?_)
        refine sB 3 [(88, .bool false), (89, .bool false), (90, .int .i64 0)] hF (by kernel_rfl) fun a hF => ?_
        refine wl (eP 91 (v0 := .bool (!decide (0 = 0))) (v := .bool false) hF (by kernel_rfl) (fun _ => by kernel_rfl) (nT (by omega)) fun a hF => ?_)
        refine sB 3 [(92, .bool false), (93, .bool false), (94, .int .i64 0)] hF (by kernel_rfl) fun a hF => ?_
        refine wl (eP 95 (v0 := .bool (!decide (0 = 0))) (v := .bool false) hF (by kernel_rfl) (fun _ => by kernel_rfl) (nT (by omega)) fun a hF => ?_)
        refine sB 3 [(96, .bool false), (97, .bool false), (98, .int .i64 0)] hF (by kernel_rfl) fun a hF => ?_
        refine wl (eP 99 (v0 := .bool (!decide (0 = 0))) (v := .bool false) hF (by kernel_rfl) (fun _ => by kernel_rfl) (nT (by omega)) fun a hF => ?_)
        refine sB 3 [(100, .bool false), (101, .bool false), (102, .int .i64 0)] hF (by kernel_rfl) fun a hF => ?_
        refine wl (eP 103 (v0 := .bool (!decide (0 = 0))) (v := .bool false) hF (by kernel_rfl) (fun _ => by kernel_rfl) (nT (by omega)) fun a hF => ?_)
        refine sB 4 [(104, .bool false), (105, .bool false), (106, .int .i64 xab), (107, .int .i64 xba)] hF (by kernel_rfl) fun a hF => ?_
        refine wl (eP 108 (v0 := .int .i64 (IntKind.i64.wrap (0 - xba))) (v := .int .i64 (-xba)) hF (by kernel_rfl) (fun _ => by kernel_rfl) (vi (by rw [Int.zero_sub]; exact (w64 (by omega)))) fun a hF => ?_)
        refine wl (eP 109 (v0 := .bool (!decide (xab = -xba))) (v := .bool false) hF (by kernel_rfl) (fun _ => by kernel_rfl) (nT (by omega)) fun a hF => ?_)
        refine sB 3 [(110, .bool false), (111, .bool false), (112, .int .i64 xab)] hF (by kernel_rfl) fun a hF => ?_
        refine wl (eP 113 (v0 := .bool (decide (xab = 0))) (v := .bool false) hF (by kernel_rfl) (fun _ => by kernel_rfl) (bF hz1) fun a hF => ?_)
        refine wl (eL 114 3 0 (v := .agg #[.int .i64 an, .int .i64 ad]) hF hM (by kernel_rfl) rfl rfl (by kernel_rfl) (by kernel_rfl) fun a w hF hM => ?_)
        refine wl (eL 115 4 0 (v := .agg #[.int .i64 bn, .int .i64 bd]) hF hM (by kernel_rfl) rfl rfl (by kernel_rfl) (by kernel_rfl) fun a w hF hM => ?_)
        refine wl (eM 116 (v := .bool false) hF hM (by kernel_rfl) ((yld_eql (C := Mem _ _ _) [an, ad] [bn, bd] hF rfl (by kernel_rfl) (by kernel_rfl) (by kernel_rfl) rfl (by kernel_rfl) (by kernel_rfl) (by kernel_rfl) rfl rfl).to (bF hz31)) fun a w hF hM => ?_)
        refine sB 2 [(117, .bool false), (118, .bool false)] hF (by kernel_rfl) fun a hF => ?_
        refine wpList_nil ?_
        refine hK13 _ _ ?_
        refine cF hF (by kernel_rfl) (by kernel_rfl) ?_
        refine wp_skip ?_
        refine hK12 _ _ ?_
        refine wp_seq_k fun K18 hK18 => ?_
        refine wp_seq_k fun K19 hK19 => ?_
        by_cases hz32 : xab < 0
        · skip
          have hz33 := o1 (by omega)
          by_cases hz34 : xbc ≤ 0
          · skip
            have hz35 := htr (by omega) (by omega)
            refine wp_region_lit ?_
            refine sB 1 [(119, .int .i64 xab)] hF (by kernel_rfl) fun a hF => ?_
            refine wl (eP 120 (v0 := .bool (decide (xab < 0))) (v := .bool true) hF (by kernel_rfl) (fun _ => by kernel_rfl) (bT hz32) fun a hF => ?_)
            refine sB 2 [(121, .bool true), (122, .pointer (some ⟨bb6, 0, none⟩))] hF (by kernel_rfl) fun a hF => ?_
            refine wl (eL 123 6 0 (v := .int .i64 dN) hF hM (by kernel_rfl) rfl rfl (by kernel_rfl) (by kernel_rfl) fun a w hF hM => ?_)
            refine wl (eP 124 (v0 := .bool (decide (0 ≤ dN))) (v := .bool false) hF (by kernel_rfl) (fun _ => by kernel_rfl) (bF (by omega)) fun a hF => ?_)
            refine sB 3 [(125, .bool false), (126, .bool false), (127, .int .i64 xab)] hF (by kernel_rfl) fun a hF => ?_
            refine wl (eP 128 (v0 := .bool (decide (0 < xab))) (v := .bool false) hF (by kernel_rfl) (fun _ => by kernel_rfl) (bF (by omega)) fun a hF => ?_)
            refine sB 8 [(129, .bool false), (130, undef), (131, undef), (132, undef), (133, .bool false), (134, .bool false), (135, .bool false), (136, .int .i64 xab)] hF (by kernel_rfl) fun a hF => ?_
            refine wl (eP 137 (v0 := .bool (decide (xab ≤ 0))) (v := .bool true) hF (by kernel_rfl) (fun _ => by kernel_rfl) (bT (by omega)) fun a hF => ?_)
            refine sB 2 [(138, .bool true), (139, .int .i64 xbc)] hF (by kernel_rfl) fun a hF => ?_
            refine wl (eP 140 (v0 := .bool (decide (xbc ≤ 0))) (v := .bool true) hF (by kernel_rfl) (fun _ => by kernel_rfl) (bT hz34) fun a hF => ?_)
            refine sB 3 [(141, .bool true), (142, .bool true), (143, .int .i64 xac)] hF (by kernel_rfl) fun a hF => ?_
            refine wl (eP 144 (v0 := .bool (decide (0 < xac))) (v := .bool false) hF (by kernel_rfl) (fun _ => by kernel_rfl) (bF (by omega)) fun a hF => ?_)
            refine sB 2 [(145, .bool false), (146, .bool false)] hF (by kernel_rfl) fun a hF => ?_
            refine wpList_nil ?_
            refine hK19 _ _ ?_
            refine cF hF (by kernel_rfl) (by kernel_rfl) ?_
            refine wp_skip ?_
            refine hK18 _ _ ?_
            refine wp_seq_k fun K20 hK20 => ?_
            by_cases hz38 : hi = lo
            · skip
              by_cases hz41 : ad = 1
              · skip
                refine wp_region_lit ?_
                refine sB 2 [(147, .int .i64 lo), (148, .pointer (some ⟨bb3, 1, none⟩))] hF (by kernel_rfl) fun a hF => ?_
                refine wl (eL 149 3 1 (v := .int .i64 ad) hF hM (by kernel_rfl) rfl rfl (by kernel_rfl) (by kernel_rfl) fun a w hF hM => ?_)
                have hz42 : -1125899906842624 ≤ lo * ad ∧ lo * ad ≤ 1125899906842624 := mul_bd (-1125899906842624) (1125899906842624) (1) (1) (by omega) (by omega) (by omega) (by omega) (by decide)
                refine wl (eP 150 (v0 := .int .i64 (IntKind.i64.wrap (lo * ad))) (v := .int .i64 (lo * ad)) hF (by kernel_rfl) (fun _ => by kernel_rfl) (wi (by omega)) fun a hF => ?_)
                refine sB 1 [(151, .pointer (some ⟨bb3, 0, none⟩))] hF (by kernel_rfl) fun a hF => ?_
                refine wl (eL 152 3 0 (v := .int .i64 an) hF hM (by kernel_rfl) rfl rfl (by kernel_rfl) (by kernel_rfl) fun a w hF hM => ?_)
                refine wl (eP 153 (v0 := .bool (decide (lo * ad ≤ an))) (v := .bool true) hF (by kernel_rfl) (fun _ => by kernel_rfl) (bT (by omega)) fun a hF => ?_)
                refine sB 3 [(154, .bool true), (155, .int .i64 hi), (156, .pointer (some ⟨bb3, 1, none⟩))] hF (by kernel_rfl) fun a hF => ?_
                refine wl (eL 157 3 1 (v := .int .i64 ad) hF hM (by kernel_rfl) rfl rfl (by kernel_rfl) (by kernel_rfl) fun a w hF hM => ?_)
                have hz43 : -1125899906842624 ≤ hi * ad ∧ hi * ad ≤ 1125899906842624 := mul_bd (-1125899906842624) (1125899906842624) (1) (1) (by omega) (by omega) (by omega) (by omega) (by decide)
                refine wl (eP 158 (v0 := .int .i64 (IntKind.i64.wrap (hi * ad))) (v := .int .i64 (hi * ad)) hF (by kernel_rfl) (fun _ => by kernel_rfl) (wi (by omega)) fun a hF => ?_)
                refine sB 1 [(159, .pointer (some ⟨bb3, 0, none⟩))] hF (by kernel_rfl) fun a hF => ?_
                refine wl (eL 160 3 0 (v := .int .i64 an) hF hM (by kernel_rfl) rfl rfl (by kernel_rfl) (by kernel_rfl) fun a w hF hM => ?_)
                refine wl (eP 161 (v0 := .bool (decide (an ≤ hi * ad))) (v := .bool true) hF (by kernel_rfl) (fun _ => by kernel_rfl) (bT (by omega)) fun a hF => ?_)
                refine sB 4 [(162, .bool true), (163, .bool true), (164, .int .i64 hi), (165, .int .i64 lo)] hF (by kernel_rfl) fun a hF => ?_
                refine wl (eP 166 (v0 := .int .i64 (IntKind.i64.wrap (hi - lo))) (v := .int .i64 (hi - lo)) hF (by kernel_rfl) (fun _ => by kernel_rfl) (wi (by omega)) fun a hF => ?_)
                refine wl (eP 167 (v0 := .bool (decide (hi - lo ≤ 1))) (v := .bool true) hF (by kernel_rfl) (fun _ => by kernel_rfl) (bT (by omega)) fun a hF => ?_)
                refine sB 4 [(168, .bool true), (169, .bool true), (170, .int .i64 hi), (171, .int .i64 lo)] hF (by kernel_rfl) fun a hF => ?_
                refine wl (eP 172 (v0 := .bool (decide (hi = lo))) (v := .bool true) hF (by kernel_rfl) (fun _ => by kernel_rfl) (bT hz38) fun a hF => ?_)
                refine sB 1 [(173, .pointer (some ⟨bb3, 1, none⟩))] hF (by kernel_rfl) fun a hF => ?_
                refine wl (eL 174 3 1 (v := .int .i64 ad) hF hM (by kernel_rfl) rfl rfl (by kernel_rfl) (by kernel_rfl) fun a w hF hM => ?_)
                refine wl (eP 175 (v0 := .bool (decide (ad = 1))) (v := .bool true) hF (by kernel_rfl) (fun _ => by kernel_rfl) (bT hz41) fun a hF => ?_)
                refine sB 3 [(176, .bool true), (177, .bool true), (4, .bool true)] hF (by kernel_rfl) fun a hF => ?_
                refine wpList_nil ?_
                refine hK20 _ _ ?_
                refine wp_ret ?_
                refine hR0 _ _ ?_
                refine ret_of hF hM (.tmp rfl (.nil)) ?_
                exact ⟨rfl, hM.bel⟩
              · skip
                exact absurd (hfl.2.2.2.2.1.1 hz38) hz41
            · skip
              by_cases hz46 : ad = 1
              · skip
                exact absurd (hfl.2.2.2.2.1.2 hz46) hz38
              · skip
                refine wp_region_lit ?_
                refine sB 2 [(147, .int .i64 lo), (148, .pointer (some ⟨bb3, 1, none⟩))] hF (by kernel_rfl) fun a hF => ?_
                refine wl (eL 149 3 1 (v := .int .i64 ad) hF hM (by kernel_rfl) rfl rfl (by kernel_rfl) (by kernel_rfl) fun a w hF hM => ?_)
                have hz47 : -33776997205278720 ≤ lo * ad ∧ lo * ad ≤ 33776997205278720 := mul_bd (-1125899906842624) (1125899906842624) (1) (30) (by omega) (by omega) (by omega) (by omega) (by decide)
                refine wl (eP 150 (v0 := .int .i64 (IntKind.i64.wrap (lo * ad))) (v := .int .i64 (lo * ad)) hF (by kernel_rfl) (fun _ => by kernel_rfl) (wi (by omega)) fun a hF => ?_)
                refine sB 1 [(151, .pointer (some ⟨bb3, 0, none⟩))] hF (by kernel_rfl) fun a hF => ?_
                refine wl (eL 152 3 0 (v := .int .i64 an) hF hM (by kernel_rfl) rfl rfl (by kernel_rfl) (by kernel_rfl) fun a w hF hM => ?_)
                refine wl (eP 153 (v0 := .bool (decide (lo * ad ≤ an))) (v := .bool true) hF (by kernel_rfl) (fun _ => by kernel_rfl) (bT (by omega)) fun a hF => ?_)
                refine sB 3 [(154, .bool true), (155, .int .i64 hi), (156, .pointer (some ⟨bb3, 1, none⟩))] hF (by kernel_rfl) fun a hF => ?_
                refine wl (eL 157 3 1 (v := .int .i64 ad) hF hM (by kernel_rfl) rfl rfl (by kernel_rfl) (by kernel_rfl) fun a w hF hM => ?_)
                have hz48 : -33776997205278720 ≤ hi * ad ∧ hi * ad ≤ 33776997205278750 := mul_bd (-1125899906842624) (1125899906842625) (1) (30) (by omega) (by omega) (by omega) (by omega) (by decide)
                refine wl (eP 158 (v0 := .int .i64 (IntKind.i64.wrap (hi * ad))) (v := .int .i64 (hi * ad)) hF (by kernel_rfl) (fun _ => by kernel_rfl) (wi (by omega)) fun a hF => ?_)
                refine sB 1 [(159, .pointer (some ⟨bb3, 0, none⟩))] hF (by kernel_rfl) fun a hF => ?_
                refine wl (eL 160 3 0 (v := .int .i64 an) hF hM (by kernel_rfl) rfl rfl (by kernel_rfl) (by kernel_rfl) fun a w hF hM => ?_)
                refine wl (eP 161 (v0 := .bool (decide (an ≤ hi * ad))) (v := .bool true) hF (by kernel_rfl) (fun _ => by kernel_rfl) (bT (by omega)) fun a hF => ?_)
                refine sB 4 [(162, .bool true), (163, .bool true), (164, .int .i64 hi), (165, .int .i64 lo)] hF (by kernel_rfl) fun a hF => ?_
                refine wl (eP 166 (v0 := .int .i64 (IntKind.i64.wrap (hi - lo))) (v := .int .i64 (hi - lo)) hF (by kernel_rfl) (fun _ => by kernel_rfl) (wi (by omega)) fun a hF => ?_)
                refine wl (eP 167 (v0 := .bool (decide (hi - lo ≤ 1))) (v := .bool true) hF (by kernel_rfl) (fun _ => by kernel_rfl) (bT (by omega)) fun a hF => ?_)
                refine sB 4 [(168, .bool true), (169, .bool true), (170, .int .i64 hi), (171, .int .i64 lo)] hF (by kernel_rfl) fun a hF => ?_
                refine wl (eP 172 (v0 := .bool (decide (hi = lo))) (v := .bool false) hF (by kernel_rfl) (fun _ => by kernel_rfl) (bF hz38) fun a hF => ?_)
                refine sB 1 [(173, .pointer (some ⟨bb3, 1, none⟩))] hF (by kernel_rfl) fun a hF => ?_
                refine wl (eL 174 3 1 (v := .int .i64 ad) hF hM (by kernel_rfl) rfl rfl (by kernel_rfl) (by kernel_rfl) fun a w hF hM => ?_)
                refine wl (eP 175 (v0 := .bool (decide (ad = 1))) (v := .bool false) hF (by kernel_rfl) (fun _ => by kernel_rfl) (bF hz46) fun a hF => ?_)
                refine sB 3 [(176, .bool true), (177, .bool true), (4, .bool true)] hF (by kernel_rfl) fun a hF => ?_
                refine wpList_nil ?_
                refine hK20 _ _ ?_
                refine wp_ret ?_
                refine hR0 _ _ ?_
                refine ret_of hF hM (.tmp rfl (.nil)) ?_
                exact ⟨rfl, hM.bel⟩
          · skip
            refine wp_region_lit ?_
            refine sB 1 [(119, .int .i64 xab)] hF (by kernel_rfl) fun a hF => ?_
            refine wl (eP 120 (v0 := .bool (decide (xab < 0))) (v := .bool true) hF (by kernel_rfl) (fun _ => by kernel_rfl) (bT hz32) fun a hF => ?_)
            refine sB 2 [(121, .bool true), (122, .pointer (some ⟨bb6, 0, none⟩))] hF (by kernel_rfl) fun a hF => ?_
            refine wl (eL 123 6 0 (v := .int .i64 dN) hF hM (by kernel_rfl) rfl rfl (by kernel_rfl) (by kernel_rfl) fun a w hF hM => ?_)
            refine wl (eP 124 (v0 := .bool (decide (0 ≤ dN))) (v := .bool false) hF (by kernel_rfl) (fun _ => by kernel_rfl) (bF (by omega)) fun a hF => ?_)
            refine sB 3 [(125, .bool false), (126, .bool false), (127, .int .i64 xab)] hF (by kernel_rfl) fun a hF => ?_
            refine wl (eP 128 (v0 := .bool (decide (0 < xab))) (v := .bool false) hF (by kernel_rfl) (fun _ => by kernel_rfl) (bF (by omega)) fun a hF => ?_)
            refine sB 8 [(129, .bool false), (130, undef), (131, undef), (132, undef), (133, .bool false), (134, .bool false), (135, .bool false), (136, .int .i64 xab)] hF (by kernel_rfl) fun a hF => ?_
            refine wl (eP 137 (v0 := .bool (decide (xab ≤ 0))) (v := .bool true) hF (by kernel_rfl) (fun _ => by kernel_rfl) (bT (by omega)) fun a hF => ?_)
            refine sB 2 [(138, .bool true), (139, .int .i64 xbc)] hF (by kernel_rfl) fun a hF => ?_
            refine wl (eP 140 (v0 := .bool (decide (xbc ≤ 0))) (v := .bool false) hF (by kernel_rfl) (fun _ => by kernel_rfl) (bF hz34) fun a hF => ?_)
            refine sB 6 [(141, .bool false), (142, .bool false), (143, undef), (144, undef), (145, .bool false), (146, .bool false)] hF (by kernel_rfl) fun a hF => ?_
            refine wpList_nil ?_
            refine hK19 _ _ ?_
            refine cF hF (by kernel_rfl) (by kernel_rfl) ?_
            refine wp_skip ?_
            refine hK18 _ _ ?_
            refine wp_seq_k fun K21 hK21 => ?_
            by_cases hz51 : hi = lo
            · skip
              by_cases hz54 : ad = 1
              · skip
                refine wp_region_lit ?_
                refine sB 2 [(147, .int .i64 lo), (148, .pointer (some ⟨bb3, 1, none⟩))] hF (by kernel_rfl) fun a hF => ?_
                refine wl (eL 149 3 1 (v := .int .i64 ad) hF hM (by kernel_rfl) rfl rfl (by kernel_rfl) (by kernel_rfl) fun a w hF hM => ?_)
                have hz55 : -1125899906842624 ≤ lo * ad ∧ lo * ad ≤ 1125899906842624 := mul_bd (-1125899906842624) (1125899906842624) (1) (1) (by omega) (by omega) (by omega) (by omega) (by decide)
                refine wl (eP 150 (v0 := .int .i64 (IntKind.i64.wrap (lo * ad))) (v := .int .i64 (lo * ad)) hF (by kernel_rfl) (fun _ => by kernel_rfl) (wi (by omega)) fun a hF => ?_)
                refine sB 1 [(151, .pointer (some ⟨bb3, 0, none⟩))] hF (by kernel_rfl) fun a hF => ?_
                refine wl (eL 152 3 0 (v := .int .i64 an) hF hM (by kernel_rfl) rfl rfl (by kernel_rfl) (by kernel_rfl) fun a w hF hM => ?_)
                refine wl (eP 153 (v0 := .bool (decide (lo * ad ≤ an))) (v := .bool true) hF (by kernel_rfl) (fun _ => by kernel_rfl) (bT (by omega)) fun a hF => ?_)
                refine sB 3 [(154, .bool true), (155, .int .i64 hi), (156, .pointer (some ⟨bb3, 1, none⟩))] hF (by kernel_rfl) fun a hF => ?_
                refine wl (eL 157 3 1 (v := .int .i64 ad) hF hM (by kernel_rfl) rfl rfl (by kernel_rfl) (by kernel_rfl) fun a w hF hM => ?_)
                have hz56 : -1125899906842624 ≤ hi * ad ∧ hi * ad ≤ 1125899906842624 := mul_bd (-1125899906842624) (1125899906842624) (1) (1) (by omega) (by omega) (by omega) (by omega) (by decide)
                refine wl (eP 158 (v0 := .int .i64 (IntKind.i64.wrap (hi * ad))) (v := .int .i64 (hi * ad)) hF (by kernel_rfl) (fun _ => by kernel_rfl) (wi (by omega)) fun a hF => ?_)
                refine sB 1 [(159, .pointer (some ⟨bb3, 0, none⟩))] hF (by kernel_rfl) fun a hF => ?_
                refine wl (eL 160 3 0 (v := .int .i64 an) hF hM (by kernel_rfl) rfl rfl (by kernel_rfl) (by kernel_rfl) fun a w hF hM => ?_)
                refine wl (eP 161 (v0 := .bool (decide (an ≤ hi * ad))) (v := .bool true) hF (by kernel_rfl) (fun _ => by kernel_rfl) (bT (by omega)) fun a hF => ?_)
                refine sB 4 [(162, .bool true), (163, .bool true), (164, .int .i64 hi), (165, .int .i64 lo)] hF (by kernel_rfl) fun a hF => ?_
                refine wl (eP 166 (v0 := .int .i64 (IntKind.i64.wrap (hi - lo))) (v := .int .i64 (hi - lo)) hF (by kernel_rfl) (fun _ => by kernel_rfl) (wi (by omega)) fun a hF => ?_)
                refine wl (eP 167 (v0 := .bool (decide (hi - lo ≤ 1))) (v := .bool true) hF (by kernel_rfl) (fun _ => by kernel_rfl) (bT (by omega)) fun a hF => ?_)
                refine sB 4 [(168, .bool true), (169, .bool true), (170, .int .i64 hi), (171, .int .i64 lo)] hF (by kernel_rfl) fun a hF => ?_
                refine wl (eP 172 (v0 := .bool (decide (hi = lo))) (v := .bool true) hF (by kernel_rfl) (fun _ => by kernel_rfl) (bT hz51) fun a hF => ?_)
                refine sB 1 [(173, .pointer (some ⟨bb3, 1, none⟩))] hF (by kernel_rfl) fun a hF => ?_
                refine wl (eL 174 3 1 (v := .int .i64 ad) hF hM (by kernel_rfl) rfl rfl (by kernel_rfl) (by kernel_rfl) fun a w hF hM => ?_)
                refine wl (eP 175 (v0 := .bool (decide (ad = 1))) (v := .bool true) hF (by kernel_rfl) (fun _ => by kernel_rfl) (bT hz54) fun a hF => ?_)
                refine sB 3 [(176, .bool true), (177, .bool true), (4, .bool true)] hF (by kernel_rfl) fun a hF => ?_
                refine wpList_nil ?_
                refine hK21 _ _ ?_
                refine wp_ret ?_
                refine hR0 _ _ ?_
                refine ret_of hF hM (.tmp rfl (.nil)) ?_
                exact ⟨rfl, hM.bel⟩
              · skip
                exact absurd (hfl.2.2.2.2.1.1 hz51) hz54
            · skip
              by_cases hz59 : ad = 1
              · skip
                exact absurd (hfl.2.2.2.2.1.2 hz59) hz51
              · skip
                refine wp_region_lit ?_
                refine sB 2 [(147, .int .i64 lo), (148, .pointer (some ⟨bb3, 1, none⟩))] hF (by kernel_rfl) fun a hF => ?_
                refine wl (eL 149 3 1 (v := .int .i64 ad) hF hM (by kernel_rfl) rfl rfl (by kernel_rfl) (by kernel_rfl) fun a w hF hM => ?_)
                have hz60 : -33776997205278720 ≤ lo * ad ∧ lo * ad ≤ 33776997205278720 := mul_bd (-1125899906842624) (1125899906842624) (1) (30) (by omega) (by omega) (by omega) (by omega) (by decide)
                refine wl (eP 150 (v0 := .int .i64 (IntKind.i64.wrap (lo * ad))) (v := .int .i64 (lo * ad)) hF (by kernel_rfl) (fun _ => by kernel_rfl) (wi (by omega)) fun a hF => ?_)
                refine sB 1 [(151, .pointer (some ⟨bb3, 0, none⟩))] hF (by kernel_rfl) fun a hF => ?_
                refine wl (eL 152 3 0 (v := .int .i64 an) hF hM (by kernel_rfl) rfl rfl (by kernel_rfl) (by kernel_rfl) fun a w hF hM => ?_)
                refine wl (eP 153 (v0 := .bool (decide (lo * ad ≤ an))) (v := .bool true) hF (by kernel_rfl) (fun _ => by kernel_rfl) (bT (by omega)) fun a hF => ?_)
                refine sB 3 [(154, .bool true), (155, .int .i64 hi), (156, .pointer (some ⟨bb3, 1, none⟩))] hF (by kernel_rfl) fun a hF => ?_
                refine wl (eL 157 3 1 (v := .int .i64 ad) hF hM (by kernel_rfl) rfl rfl (by kernel_rfl) (by kernel_rfl) fun a w hF hM => ?_)
                have hz61 : -33776997205278720 ≤ hi * ad ∧ hi * ad ≤ 33776997205278750 := mul_bd (-1125899906842624) (1125899906842625) (1) (30) (by omega) (by omega) (by omega) (by omega) (by decide)
                refine wl (eP 158 (v0 := .int .i64 (IntKind.i64.wrap (hi * ad))) (v := .int .i64 (hi * ad)) hF (by kernel_rfl) (fun _ => by kernel_rfl) (wi (by omega)) fun a hF => ?_)
                refine sB 1 [(159, .pointer (some ⟨bb3, 0, none⟩))] hF (by kernel_rfl) fun a hF => ?_
                refine wl (eL 160 3 0 (v := .int .i64 an) hF hM (by kernel_rfl) rfl rfl (by kernel_rfl) (by kernel_rfl) fun a w hF hM => ?_)
                refine wl (eP 161 (v0 := .bool (decide (an ≤ hi * ad))) (v := .bool true) hF (by kernel_rfl) (fun _ => by kernel_rfl) (bT (by omega)) fun a hF => ?_)
                refine sB 4 [(162, .bool true), (163, .bool true), (164, .int .i64 hi), (165, .int .i64 lo)] hF (by kernel_rfl) fun a hF => ?_
                refine wl (eP 166 (v0 := .int .i64 (IntKind.i64.wrap (hi - lo))) (v := .int .i64 (hi - lo)) hF (by kernel_rfl) (fun _ => by kernel_rfl) (wi (by omega)) fun a hF => ?_)
                refine wl (eP 167 (v0 := .bool (decide (hi - lo ≤ 1))) (v := .bool true) hF (by kernel_rfl) (fun _ => by kernel_rfl) (bT (by omega)) fun a hF => ?_)
                refine sB 4 [(168, .bool true), (169, .bool true), (170, .int .i64 hi), (171, .int .i64 lo)] hF (by kernel_rfl) fun a hF => ?_
                refine wl (eP 172 (v0 := .bool (decide (hi = lo))) (v := .bool false) hF (by kernel_rfl) (fun _ => by kernel_rfl) (bF hz51) fun a hF => ?_)
                refine sB 1 [(173, .pointer (some ⟨bb3, 1, none⟩))] hF (by kernel_rfl) fun a hF => ?_
                refine wl (eL 174 3 1 (v := .int .i64 ad) hF hM (by kernel_rfl) rfl rfl (by kernel_rfl) (by kernel_rfl) fun a w hF hM => ?_)
                refine wl (eP 175 (v0 := .bool (decide (ad = 1))) (v := .bool false) hF (by kernel_rfl) (fun _ => by kernel_rfl) (bF hz59) fun a hF => ?_)
                refine sB 3 [(176, .bool true), (177, .bool true), (4, .bool true)] hF (by kernel_rfl) fun a hF => ?_
                refine wpList_nil ?_
                refine hK21 _ _ ?_
                refine wp_ret ?_
                refine hR0 _ _ ?_
                refine ret_of hF hM (.tmp rfl (.nil)) ?_
                exact ⟨rfl, hM.bel⟩
        · skip
          by_cases hz62 : 0 < xab
          · skip
            have hz63 := o2 (by omega)
            refine wp_region_lit ?_
            refine sB 1 [(119, .int .i64 xab)] hF (by kernel_rfl) fun a hF => ?_
            refine wl (eP 120 (v0 := .bool (decide (xab < 0))) (v := .bool false) hF (by kernel_rfl) (fun _ => by kernel_rfl) (bF hz32) fun a hF => ?_)
            refine sB 7 [(121, .bool false), (122, undef), (123, undef), (124, undef), (125, .bool false), (126, .bool false), (127, .int .i64 xab)] hF (by kernel_rfl) fun a hF => ?_
            refine wl (eP 128 (v0 := .bool (decide (0 < xab))) (v := .bool true) hF (by kernel_rfl) (fun _ => by kernel_rfl) (bT hz62) fun a hF => ?_)
            refine sB 2 [(129, .bool true), (130, .pointer (some ⟨bb6, 0, none⟩))] hF (by kernel_rfl) fun a hF => ?_
            refine wl (eL 131 6 0 (v := .int .i64 dN) hF hM (by kernel_rfl) rfl rfl (by kernel_rfl) (by kernel_rfl) fun a w hF hM => ?_)
            refine wl (eP 132 (v0 := .bool (decide (dN ≤ 0))) (v := .bool false) hF (by kernel_rfl) (fun _ => by kernel_rfl) (bF (by omega)) fun a hF => ?_)
            refine sB 4 [(133, .bool false), (134, .bool false), (135, .bool false), (136, .int .i64 xab)] hF (by kernel_rfl) fun a hF => ?_
            refine wl (eP 137 (v0 := .bool (decide (xab ≤ 0))) (v := .bool false) hF (by kernel_rfl) (fun _ => by kernel_rfl) (bF (by omega)) fun a hF => ?_)
            refine sB 9 [(138, .bool false), (139, undef), (140, undef), (141, .bool false), (142, .bool false), (143, undef), (144, undef), (145, .bool false), (146, .bool false)] hF (by kernel_rfl) fun a hF => ?_
            refine wpList_nil ?_
            refine hK19 _ _ ?_
            refine cF hF (by kernel_rfl) (by kernel_rfl) ?_
            refine wp_skip ?_
            refine hK18 _ _ ?_
            refine wp_seq_k fun K22 hK22 => ?_
            by_cases hz66 : hi = lo
            · skip
              by_cases hz69 : ad = 1
              · skip
                refine wp_region_lit ?_
                refine sB 2 [(147, .int .i64 lo), (148, .pointer (some ⟨bb3, 1, none⟩))] hF (by kernel_rfl) fun a hF => ?_
                refine wl (eL 149 3 1 (v := .int .i64 ad) hF hM (by kernel_rfl) rfl rfl (by kernel_rfl) (by kernel_rfl) fun a w hF hM => ?_)
                have hz70 : -1125899906842624 ≤ lo * ad ∧ lo * ad ≤ 1125899906842624 := mul_bd (-1125899906842624) (1125899906842624) (1) (1) (by omega) (by omega) (by omega) (by omega) (by decide)
                refine wl (eP 150 (v0 := .int .i64 (IntKind.i64.wrap (lo * ad))) (v := .int .i64 (lo * ad)) hF (by kernel_rfl) (fun _ => by kernel_rfl) (wi (by omega)) fun a hF => ?_)
                refine sB 1 [(151, .pointer (some ⟨bb3, 0, none⟩))] hF (by kernel_rfl) fun a hF => ?_
                refine wl (eL 152 3 0 (v := .int .i64 an) hF hM (by kernel_rfl) rfl rfl (by kernel_rfl) (by kernel_rfl) fun a w hF hM => ?_)
                refine wl (eP 153 (v0 := .bool (decide (lo * ad ≤ an))) (v := .bool true) hF (by kernel_rfl) (fun _ => by kernel_rfl) (bT (by omega)) fun a hF => ?_)
                refine sB 3 [(154, .bool true), (155, .int .i64 hi), (156, .pointer (some ⟨bb3, 1, none⟩))] hF (by kernel_rfl) fun a hF => ?_
                refine wl (eL 157 3 1 (v := .int .i64 ad) hF hM (by kernel_rfl) rfl rfl (by kernel_rfl) (by kernel_rfl) fun a w hF hM => ?_)
                have hz71 : -1125899906842624 ≤ hi * ad ∧ hi * ad ≤ 1125899906842624 := mul_bd (-1125899906842624) (1125899906842624) (1) (1) (by omega) (by omega) (by omega) (by omega) (by decide)
                refine wl (eP 158 (v0 := .int .i64 (IntKind.i64.wrap (hi * ad))) (v := .int .i64 (hi * ad)) hF (by kernel_rfl) (fun _ => by kernel_rfl) (wi (by omega)) fun a hF => ?_)
                refine sB 1 [(159, .pointer (some ⟨bb3, 0, none⟩))] hF (by kernel_rfl) fun a hF => ?_
                refine wl (eL 160 3 0 (v := .int .i64 an) hF hM (by kernel_rfl) rfl rfl (by kernel_rfl) (by kernel_rfl) fun a w hF hM => ?_)
                refine wl (eP 161 (v0 := .bool (decide (an ≤ hi * ad))) (v := .bool true) hF (by kernel_rfl) (fun _ => by kernel_rfl) (bT (by omega)) fun a hF => ?_)
                refine sB 4 [(162, .bool true), (163, .bool true), (164, .int .i64 hi), (165, .int .i64 lo)] hF (by kernel_rfl) fun a hF => ?_
                refine wl (eP 166 (v0 := .int .i64 (IntKind.i64.wrap (hi - lo))) (v := .int .i64 (hi - lo)) hF (by kernel_rfl) (fun _ => by kernel_rfl) (wi (by omega)) fun a hF => ?_)
                refine wl (eP 167 (v0 := .bool (decide (hi - lo ≤ 1))) (v := .bool true) hF (by kernel_rfl) (fun _ => by kernel_rfl) (bT (by omega)) fun a hF => ?_)
                refine sB 4 [(168, .bool true), (169, .bool true), (170, .int .i64 hi), (171, .int .i64 lo)] hF (by kernel_rfl) fun a hF => ?_
                refine wl (eP 172 (v0 := .bool (decide (hi = lo))) (v := .bool true) hF (by kernel_rfl) (fun _ => by kernel_rfl) (bT hz66) fun a hF => ?_)
                refine sB 1 [(173, .pointer (some ⟨bb3, 1, none⟩))] hF (by kernel_rfl) fun a hF => ?_
                refine wl (eL 174 3 1 (v := .int .i64 ad) hF hM (by kernel_rfl) rfl rfl (by kernel_rfl) (by kernel_rfl) fun a w hF hM => ?_)
                refine wl (eP 175 (v0 := .bool (decide (ad = 1))) (v := .bool true) hF (by kernel_rfl) (fun _ => by kernel_rfl) (bT hz69) fun a hF => ?_)
                refine sB 3 [(176, .bool true), (177, .bool true), (4, .bool true)] hF (by kernel_rfl) fun a hF => ?_
                refine wpList_nil ?_
                refine hK22 _ _ ?_
                refine wp_ret ?_
                refine hR0 _ _ ?_
                refine ret_of hF hM (.tmp rfl (.nil)) ?_
                exact ⟨rfl, hM.bel⟩
              · skip
                exact absurd (hfl.2.2.2.2.1.1 hz66) hz69
            · skip
              by_cases hz74 : ad = 1
              · skip
                exact absurd (hfl.2.2.2.2.1.2 hz74) hz66
              · skip
                refine wp_region_lit ?_
                refine sB 2 [(147, .int .i64 lo), (148, .pointer (some ⟨bb3, 1, none⟩))] hF (by kernel_rfl) fun a hF => ?_
                refine wl (eL 149 3 1 (v := .int .i64 ad) hF hM (by kernel_rfl) rfl rfl (by kernel_rfl) (by kernel_rfl) fun a w hF hM => ?_)
                have hz75 : -33776997205278720 ≤ lo * ad ∧ lo * ad ≤ 33776997205278720 := mul_bd (-1125899906842624) (1125899906842624) (1) (30) (by omega) (by omega) (by omega) (by omega) (by decide)
                refine wl (eP 150 (v0 := .int .i64 (IntKind.i64.wrap (lo * ad))) (v := .int .i64 (lo * ad)) hF (by kernel_rfl) (fun _ => by kernel_rfl) (wi (by omega)) fun a hF => ?_)
                refine sB 1 [(151, .pointer (some ⟨bb3, 0, none⟩))] hF (by kernel_rfl) fun a hF => ?_
                refine wl (eL 152 3 0 (v := .int .i64 an) hF hM (by kernel_rfl) rfl rfl (by kernel_rfl) (by kernel_rfl) fun a w hF hM => ?_)
                refine wl (eP 153 (v0 := .bool (decide (lo * ad ≤ an))) (v := .bool true) hF (by kernel_rfl) (fun _ => by kernel_rfl) (bT (by omega)) fun a hF => ?_)
                refine sB 3 [(154, .bool true), (155, .int .i64 hi), (156, .pointer (some ⟨bb3, 1, none⟩))] hF (by kernel_rfl) fun a hF => ?_
                refine wl (eL 157 3 1 (v := .int .i64 ad) hF hM (by kernel_rfl) rfl rfl (by kernel_rfl) (by kernel_rfl) fun a w hF hM => ?_)
                have hz76 : -33776997205278720 ≤ hi * ad ∧ hi * ad ≤ 33776997205278750 := mul_bd (-1125899906842624) (1125899906842625) (1) (30) (by omega) (by omega) (by omega) (by omega) (by decide)
                refine wl (eP 158 (v0 := .int .i64 (IntKind.i64.wrap (hi * ad))) (v := .int .i64 (hi * ad)) hF (by kernel_rfl) (fun _ => by kernel_rfl) (wi (by omega)) fun a hF => ?_)
                refine sB 1 [(159, .pointer (some ⟨bb3, 0, none⟩))] hF (by kernel_rfl) fun a hF => ?_
                refine wl (eL 160 3 0 (v := .int .i64 an) hF hM (by kernel_rfl) rfl rfl (by kernel_rfl) (by kernel_rfl) fun a w hF hM => ?_)
                refine wl (eP 161 (v0 := .bool (decide (an ≤ hi * ad))) (v := .bool true) hF (by kernel_rfl) (fun _ => by kernel_rfl) (bT (by omega)) fun a hF => ?_)
                refine sB 4 [(162, .bool true), (163, .bool true), (164, .int .i64 hi), (165, .int .i64 lo)] hF (by kernel_rfl) fun a hF => ?_
                refine wl (eP 166 (v0 := .int .i64 (IntKind.i64.wrap (hi - lo))) (v := .int .i64 (hi - lo)) hF (by kernel_rfl) (fun _ => by kernel_rfl) (wi (by omega)) fun a hF => ?_)
                refine wl (eP 167 (v0 := .bool (decide (hi - lo ≤ 1))) (v := .bool true) hF (by kernel_rfl) (fun _ => by kernel_rfl) (bT (by omega)) fun a hF => ?_)
                refine sB 4 [(168, .bool true), (169, .bool true), (170, .int .i64 hi), (171, .int .i64 lo)] hF (by kernel_rfl) fun a hF => ?_
                refine wl (eP 172 (v0 := .bool (decide (hi = lo))) (v := .bool false) hF (by kernel_rfl) (fun _ => by kernel_rfl) (bF hz66) fun a hF => ?_)
                refine sB 1 [(173, .pointer (some ⟨bb3, 1, none⟩))] hF (by kernel_rfl) fun a hF => ?_
                refine wl (eL 174 3 1 (v := .int .i64 ad) hF hM (by kernel_rfl) rfl rfl (by kernel_rfl) (by kernel_rfl) fun a w hF hM => ?_)
                refine wl (eP 175 (v0 := .bool (decide (ad = 1))) (v := .bool false) hF (by kernel_rfl) (fun _ => by kernel_rfl) (bF hz74) fun a hF => ?_)
                refine sB 3 [(176, .bool true), (177, .bool true), (4, .bool true)] hF (by kernel_rfl) fun a hF => ?_
                refine wpList_nil ?_
                refine hK22 _ _ ?_
                refine wp_ret ?_
                refine hR0 _ _ ?_
                refine ret_of hF hM (.tmp rfl (.nil)) ?_
                exact ⟨rfl, hM.bel⟩
          · skip
            by_cases hz77 : xbc ≤ 0
            · skip
              have hz78 := htr (by omega) (by omega)
              refine wp_region_lit ?_
              refine sB 1 [(119, .int .i64 xab)] hF (by kernel_rfl) fun a hF => ?_
              refine wl (eP 120 (v0 := .bool (decide (xab < 0))) (v := .bool false) hF (by kernel_rfl) (fun _ => by kernel_rfl) (bF hz32) fun a hF => ?_)
              refine sB 7 [(121, .bool false), (122, undef), (123, undef), (124, undef), (125, .bool false), (126, .bool false), (127, .int .i64 xab)] hF (by kernel_rfl) fun a hF => ?_
              refine wl (eP 128 (v0 := .bool (decide (0 < xab))) (v := .bool false) hF (by kernel_rfl) (fun _ => by kernel_rfl) (bF hz62) fun a hF => ?_)
              refine sB 8 [(129, .bool false), (130, undef), (131, undef), (132, undef), (133, .bool false), (134, .bool false), (135, .bool false), (136, .int .i64 xab)] hF (by kernel_rfl) fun a hF => ?_
              refine wl (eP 137 (v0 := .bool (decide (xab ≤ 0))) (v := .bool true) hF (by kernel_rfl) (fun _ => by kernel_rfl) (bT (by omega)) fun a hF => ?_)
              refine sB 2 [(138, .bool true), (139, .int .i64 xbc)] hF (by kernel_rfl) fun a hF => ?_
              refine wl (eP 140 (v0 := .bool (decide (xbc ≤ 0))) (v := .bool true) hF (by kernel_rfl) (fun _ => by kernel_rfl) (bT hz77) fun a hF => ?_)
              refine sB 3 [(141, .bool true), (142, .bool true), (143, .int .i64 xac)] hF (by kernel_rfl) fun a hF => ?_
              refine wl (eP 144 (v0 := .bool (decide (0 < xac))) (v := .bool false) hF (by kernel_rfl) (fun _ => by kernel_rfl) (bF (by omega)) fun a hF => ?_)
              refine sB 2 [(145, .bool false), (146, .bool false)] hF (by kernel_rfl) fun a hF => ?_
              refine wpList_nil ?_
              refine hK19 _ _ ?_
              refine cF hF (by kernel_rfl) (by kernel_rfl) ?_
              refine wp_skip ?_
              refine hK18 _ _ ?_
              refine wp_seq_k fun K23 hK23 => ?_
              by_cases hz81 : hi = lo
              · skip
                by_cases hz84 : ad = 1
                · skip
                  refine wp_region_lit ?_
                  refine sB 2 [(147, .int .i64 lo), (148, .pointer (some ⟨bb3, 1, none⟩))] hF (by kernel_rfl) fun a hF => ?_
                  refine wl (eL 149 3 1 (v := .int .i64 ad) hF hM (by kernel_rfl) rfl rfl (by kernel_rfl) (by kernel_rfl) fun a w hF hM => ?_)
                  have hz85 : -1125899906842624 ≤ lo * ad ∧ lo * ad ≤ 1125899906842624 := mul_bd (-1125899906842624) (1125899906842624) (1) (1) (by omega) (by omega) (by omega) (by omega) (by decide)
                  refine wl (eP 150 (v0 := .int .i64 (IntKind.i64.wrap (lo * ad))) (v := .int .i64 (lo * ad)) hF (by kernel_rfl) (fun _ => by kernel_rfl) (wi (by omega)) fun a hF => ?_)
                  refine sB 1 [(151, .pointer (some ⟨bb3, 0, none⟩))] hF (by kernel_rfl) fun a hF => ?_
                  refine wl (eL 152 3 0 (v := .int .i64 an) hF hM (by kernel_rfl) rfl rfl (by kernel_rfl) (by kernel_rfl) fun a w hF hM => ?_)
                  refine wl (eP 153 (v0 := .bool (decide (lo * ad ≤ an))) (v := .bool true) hF (by kernel_rfl) (fun _ => by kernel_rfl) (bT (by omega)) fun a hF => ?_)
                  refine sB 3 [(154, .bool true), (155, .int .i64 hi), (156, .pointer (some ⟨bb3, 1, none⟩))] hF (by kernel_rfl) fun a hF => ?_
                  refine wl (eL 157 3 1 (v := .int .i64 ad) hF hM (by kernel_rfl) rfl rfl (by kernel_rfl) (by kernel_rfl) fun a w hF hM => ?_)
                  have hz86 : -1125899906842624 ≤ hi * ad ∧ hi * ad ≤ 1125899906842624 := mul_bd (-1125899906842624) (1125899906842624) (1) (1) (by omega) (by omega) (by omega) (by omega) (by decide)
                  refine wl (eP 158 (v0 := .int .i64 (IntKind.i64.wrap (hi * ad))) (v := .int .i64 (hi * ad)) hF (by kernel_rfl) (fun _ => by kernel_rfl) (wi (by omega)) fun a hF => ?_)
                  refine sB 1 [(159, .pointer (some ⟨bb3, 0, none⟩))] hF (by kernel_rfl) fun a hF => ?_
                  refine wl (eL 160 3 0 (v := .int .i64 an) hF hM (by kernel_rfl) rfl rfl (by kernel_rfl) (by kernel_rfl) fun a w hF hM => ?_)
                  refine wl (eP 161 (v0 := .bool (decide (an ≤ hi * ad))) (v := .bool true) hF (by kernel_rfl) (fun _ => by kernel_rfl) (bT (by omega)) fun a hF => ?_)
                  refine sB 4 [(162, .bool true), (163, .bool true), (164, .int .i64 hi), (165, .int .i64 lo)] hF (by kernel_rfl) fun a hF => ?_
                  refine wl (eP 166 (v0 := .int .i64 (IntKind.i64.wrap (hi - lo))) (v := .int .i64 (hi - lo)) hF (by kernel_rfl) (fun _ => by kernel_rfl) (wi (by omega)) fun a hF => ?_)
                  refine wl (eP 167 (v0 := .bool (decide (hi - lo ≤ 1))) (v := .bool true) hF (by kernel_rfl) (fun _ => by kernel_rfl) (bT (by omega)) fun a hF => ?_)
                  refine sB 4 [(168, .bool true), (169, .bool true), (170, .int .i64 hi), (171, .int .i64 lo)] hF (by kernel_rfl) fun a hF => ?_
                  refine wl (eP 172 (v0 := .bool (decide (hi = lo))) (v := .bool true) hF (by kernel_rfl) (fun _ => by kernel_rfl) (bT hz81) fun a hF => ?_)
                  refine sB 1 [(173, .pointer (some ⟨bb3, 1, none⟩))] hF (by kernel_rfl) fun a hF => ?_
                  refine wl (eL 174 3 1 (v := .int .i64 ad) hF hM (by kernel_rfl) rfl rfl (by kernel_rfl) (by kernel_rfl) fun a w hF hM => ?_)
                  refine wl (eP 175 (v0 := .bool (decide (ad = 1))) (v := .bool true) hF (by kernel_rfl) (fun _ => by kernel_rfl) (bT hz84) fun a hF => ?_)
                  refine sB 3 [(176, .bool true), (177, .bool true), (4, .bool true)] hF (by kernel_rfl) fun a hF => ?_
                  refine wpList_nil ?_
                  refine hK23 _ _ ?_
                  refine wp_ret ?_
                  refine hR0 _ _ ?_
                  refine ret_of hF hM (.tmp rfl (.nil)) ?_
                  exact ⟨rfl, hM.bel⟩
                · skip
                  exact absurd (hfl.2.2.2.2.1.1 hz81) hz84
              · skip
                by_cases hz89 : ad = 1
                · skip
                  exact absurd (hfl.2.2.2.2.1.2 hz89) hz81
                · skip
                  refine wp_region_lit ?_
                  refine sB 2 [(147, .int .i64 lo), (148, .pointer (some ⟨bb3, 1, none⟩))] hF (by kernel_rfl) fun a hF => ?_
                  refine wl (eL 149 3 1 (v := .int .i64 ad) hF hM (by kernel_rfl) rfl rfl (by kernel_rfl) (by kernel_rfl) fun a w hF hM => ?_)
                  have hz90 : -33776997205278720 ≤ lo * ad ∧ lo * ad ≤ 33776997205278720 := mul_bd (-1125899906842624) (1125899906842624) (1) (30) (by omega) (by omega) (by omega) (by omega) (by decide)
                  refine wl (eP 150 (v0 := .int .i64 (IntKind.i64.wrap (lo * ad))) (v := .int .i64 (lo * ad)) hF (by kernel_rfl) (fun _ => by kernel_rfl) (wi (by omega)) fun a hF => ?_)
                  refine sB 1 [(151, .pointer (some ⟨bb3, 0, none⟩))] hF (by kernel_rfl) fun a hF => ?_
                  refine wl (eL 152 3 0 (v := .int .i64 an) hF hM (by kernel_rfl) rfl rfl (by kernel_rfl) (by kernel_rfl) fun a w hF hM => ?_)
                  refine wl (eP 153 (v0 := .bool (decide (lo * ad ≤ an))) (v := .bool true) hF (by kernel_rfl) (fun _ => by kernel_rfl) (bT (by omega)) fun a hF => ?_)
                  refine sB 3 [(154, .bool true), (155, .int .i64 hi), (156, .pointer (some ⟨bb3, 1, none⟩))] hF (by kernel_rfl) fun a hF => ?_
                  refine wl (eL 157 3 1 (v := .int .i64 ad) hF hM (by kernel_rfl) rfl rfl (by kernel_rfl) (by kernel_rfl) fun a w hF hM => ?_)
                  have hz91 : -33776997205278720 ≤ hi * ad ∧ hi * ad ≤ 33776997205278750 := mul_bd (-1125899906842624) (1125899906842625) (1) (30) (by omega) (by omega) (by omega) (by omega) (by decide)
                  refine wl (eP 158 (v0 := .int .i64 (IntKind.i64.wrap (hi * ad))) (v := .int .i64 (hi * ad)) hF (by kernel_rfl) (fun _ => by kernel_rfl) (wi (by omega)) fun a hF => ?_)
                  refine sB 1 [(159, .pointer (some ⟨bb3, 0, none⟩))] hF (by kernel_rfl) fun a hF => ?_
                  refine wl (eL 160 3 0 (v := .int .i64 an) hF hM (by kernel_rfl) rfl rfl (by kernel_rfl) (by kernel_rfl) fun a w hF hM => ?_)
                  refine wl (eP 161 (v0 := .bool (decide (an ≤ hi * ad))) (v := .bool true) hF (by kernel_rfl) (fun _ => by kernel_rfl) (bT (by omega)) fun a hF => ?_)
                  refine sB 4 [(162, .bool true), (163, .bool true), (164, .int .i64 hi), (165, .int .i64 lo)] hF (by kernel_rfl) fun a hF => ?_
                  refine wl (eP 166 (v0 := .int .i64 (IntKind.i64.wrap (hi - lo))) (v := .int .i64 (hi - lo)) hF (by kernel_rfl) (fun _ => by kernel_rfl) (wi (by omega)) fun a hF => ?_)
                  refine wl (eP 167 (v0 := .bool (decide (hi - lo ≤ 1))) (v := .bool true) hF (by kernel_rfl) (fun _ => by kernel_rfl) (bT (by omega)) fun a hF => ?_)
                  refine sB 4 [(168, .bool true), (169, .bool true), (170, .int .i64 hi), (171, .int .i64 lo)] hF (by kernel_rfl) fun a hF => ?_
                  refine wl (eP 172 (v0 := .bool (decide (hi = lo))) (v := .bool false) hF (by kernel_rfl) (fun _ => by kernel_rfl) (bF hz81) fun a hF => ?_)
                  refine sB 1 [(173, .pointer (some ⟨bb3, 1, none⟩))] hF (by kernel_rfl) fun a hF => ?_
                  refine wl (eL 174 3 1 (v := .int .i64 ad) hF hM (by kernel_rfl) rfl rfl (by kernel_rfl) (by kernel_rfl) fun a w hF hM => ?_)
                  refine wl (eP 175 (v0 := .bool (decide (ad = 1))) (v := .bool false) hF (by kernel_rfl) (fun _ => by kernel_rfl) (bF hz89) fun a hF => ?_)
                  refine sB 3 [(176, .bool true), (177, .bool true), (4, .bool true)] hF (by kernel_rfl) fun a hF => ?_
                  refine wpList_nil ?_
                  refine hK23 _ _ ?_
                  refine wp_ret ?_
                  refine hR0 _ _ ?_
                  refine ret_of hF hM (.tmp rfl (.nil)) ?_
                  exact ⟨rfl, hM.bel⟩
            · skip
              refine wp_region_lit ?_
              refine sB 1 [(119, .int .i64 xab)] hF (by kernel_rfl) fun a hF => ?_
              refine wl (eP 120 (v0 := .bool (decide (xab < 0))) (v := .bool false) hF (by kernel_rfl) (fun _ => by kernel_rfl) (bF hz32) fun a hF => ?_)
              refine sB 7 [(121, .bool false), (122, undef), (123, undef), (124, undef), (125, .bool false), (126, .bool false), (127, .int .i64 xab)] hF (by kernel_rfl) fun a hF => ?_
              refine wl (eP 128 (v0 := .bool (decide (0 < xab))) (v := .bool false) hF (by kernel_rfl) (fun _ => by kernel_rfl) (bF hz62) fun a hF => ?_)
              refine sB 8 [(129, .bool false), (130, undef), (131, undef), (132, undef), (133, .bool false), (134, .bool false), (135, .bool false), (136, .int .i64 xab)] hF (by kernel_rfl) fun a hF => ?_
              refine wl (eP 137 (v0 := .bool (decide (xab ≤ 0))) (v := .bool true) hF (by kernel_rfl) (fun _ => by kernel_rfl) (bT (by omega)) fun a hF => ?_)
              refine sB 2 [(138, .bool true), (139, .int .i64 xbc)] hF (by kernel_rfl) fun a hF => ?_
              refine wl (eP 140 (v0 := .bool (decide (xbc ≤ 0))) (v := .bool false) hF (by kernel_rfl) (fun _ => by kernel_rfl) (bF hz77) fun a hF => ?_)
              refine sB 6 [(141, .bool false), (142, .bool false), (143, undef), (144, undef), (145, .bool false), (146, .bool false)] hF (by kernel_rfl) fun a hF => ?_
              refine wpList_nil ?_
              refine hK19 _ _ ?_
              refine cF hF (by kernel_rfl) (by kernel_rfl) ?_
              refine wp_skip ?_
              refine hK18 _ _ ?_
              refine wp_seq_k fun K24 hK24 => ?_
              by_cases hz94 : hi = lo
              · skip
                by_cases hz97 : ad = 1
                · skip
                  refine wp_region_lit ?_
                  refine sB 2 [(147, .int .i64 lo), (148, .pointer (some ⟨bb3, 1, none⟩))] hF (by kernel_rfl) fun a hF => ?_
                  refine wl (eL 149 3 1 (v := .int .i64 ad) hF hM (by kernel_rfl) rfl rfl (by kernel_rfl) (by kernel_rfl) fun a w hF hM => ?_)
                  have hz98 : -1125899906842624 ≤ lo * ad ∧ lo * ad ≤ 1125899906842624 := mul_bd (-1125899906842624) (1125899906842624) (1) (1) (by omega) (by omega) (by omega) (by omega) (by decide)
                  refine wl (eP 150 (v0 := .int .i64 (IntKind.i64.wrap (lo * ad))) (v := .int .i64 (lo * ad)) hF (by kernel_rfl) (fun _ => by kernel_rfl) (wi (by omega)) fun a hF => ?_)
                  refine sB 1 [(151, .pointer (some ⟨bb3, 0, none⟩))] hF (by kernel_rfl) fun a hF => ?_
                  refine wl (eL 152 3 0 (v := .int .i64 an) hF hM (by kernel_rfl) rfl rfl (by kernel_rfl) (by kernel_rfl) fun a w hF hM => ?_)
                  refine wl (eP 153 (v0 := .bool (decide (lo * ad ≤ an))) (v := .bool true) hF (by kernel_rfl) (fun _ => by kernel_rfl) (bT (by omega)) fun a hF => ?_)
                  refine sB 3 [(154, .bool true), (155, .int .i64 hi), (156, .pointer (some ⟨bb3, 1, none⟩))] hF (by kernel_rfl) fun a hF => ?_
                  refine wl (eL 157 3 1 (v := .int .i64 ad) hF hM (by kernel_rfl) rfl rfl (by kernel_rfl) (by kernel_rfl) fun a w hF hM => ?_)
                  have hz99 : -1125899906842624 ≤ hi * ad ∧ hi * ad ≤ 1125899906842624 := mul_bd (-1125899906842624) (1125899906842624) (1) (1) (by omega) (by omega) (by omega) (by omega) (by decide)
                  refine wl (eP 158 (v0 := .int .i64 (IntKind.i64.wrap (hi * ad))) (v := .int .i64 (hi * ad)) hF (by kernel_rfl) (fun _ => by kernel_rfl) (wi (by omega)) fun a hF => ?_)
                  refine sB 1 [(159, .pointer (some ⟨bb3, 0, none⟩))] hF (by kernel_rfl) fun a hF => ?_
                  refine wl (eL 160 3 0 (v := .int .i64 an) hF hM (by kernel_rfl) rfl rfl (by kernel_rfl) (by kernel_rfl) fun a w hF hM => ?_)
                  refine wl (eP 161 (v0 := .bool (decide (an ≤ hi * ad))) (v := .bool true) hF (by kernel_rfl) (fun _ => by kernel_rfl) (bT (by omega)) fun a hF => ?_)
                  refine sB 4 [(162, .bool true), (163, .bool true), (164, .int .i64 hi), (165, .int .i64 lo)] hF (by kernel_rfl) fun a hF => ?_
                  refine wl (eP 166 (v0 := .int .i64 (IntKind.i64.wrap (hi - lo))) (v := .int .i64 (hi - lo)) hF (by kernel_rfl) (fun _ => by kernel_rfl) (wi (by omega)) fun a hF => ?_)
                  refine wl (eP 167 (v0 := .bool (decide (hi - lo ≤ 1))) (v := .bool true) hF (by kernel_rfl) (fun _ => by kernel_rfl) (bT (by omega)) fun a hF => ?_)
                  refine sB 4 [(168, .bool true), (169, .bool true), (170, .int .i64 hi), (171, .int .i64 lo)] hF (by kernel_rfl) fun a hF => ?_
                  refine wl (eP 172 (v0 := .bool (decide (hi = lo))) (v := .bool true) hF (by kernel_rfl) (fun _ => by kernel_rfl) (bT hz94) fun a hF => ?_)
                  refine sB 1 [(173, .pointer (some ⟨bb3, 1, none⟩))] hF (by kernel_rfl) fun a hF => ?_
                  refine wl (eL 174 3 1 (v := .int .i64 ad) hF hM (by kernel_rfl) rfl rfl (by kernel_rfl) (by kernel_rfl) fun a w hF hM => ?_)
                  refine wl (eP 175 (v0 := .bool (decide (ad = 1))) (v := .bool true) hF (by kernel_rfl) (fun _ => by kernel_rfl) (bT hz97) fun a hF => ?_)
                  refine sB 3 [(176, .bool true), (177, .bool true), (4, .bool true)] hF (by kernel_rfl) fun a hF => ?_
                  refine wpList_nil ?_
                  refine hK24 _ _ ?_
                  refine wp_ret ?_
                  refine hR0 _ _ ?_
                  refine ret_of hF hM (.tmp rfl (.nil)) ?_
                  exact ⟨rfl, hM.bel⟩
                · skip
                  exact absurd (hfl.2.2.2.2.1.1 hz94) hz97
              · skip
                by_cases hz102 : ad = 1
                · skip
                  exact absurd (hfl.2.2.2.2.1.2 hz102) hz94
                · skip
                  refine wp_region_lit ?_
                  refine sB 2 [(147, .int .i64 lo), (148, .pointer (some ⟨bb3, 1, none⟩))] hF (by kernel_rfl) fun a hF => ?_
                  refine wl (eL 149 3 1 (v := .int .i64 ad) hF hM (by kernel_rfl) rfl rfl (by kernel_rfl) (by kernel_rfl) fun a w hF hM => ?_)
                  have hz103 : -33776997205278720 ≤ lo * ad ∧ lo * ad ≤ 33776997205278720 := mul_bd (-1125899906842624) (1125899906842624) (1) (30) (by omega) (by omega) (by omega) (by omega) (by decide)
                  refine wl (eP 150 (v0 := .int .i64 (IntKind.i64.wrap (lo * ad))) (v := .int .i64 (lo * ad)) hF (by kernel_rfl) (fun _ => by kernel_rfl) (wi (by omega)) fun a hF => ?_)
                  refine sB 1 [(151, .pointer (some ⟨bb3, 0, none⟩))] hF (by kernel_rfl) fun a hF => ?_
                  refine wl (eL 152 3 0 (v := .int .i64 an) hF hM (by kernel_rfl) rfl rfl (by kernel_rfl) (by kernel_rfl) fun a w hF hM => ?_)
                  refine wl (eP 153 (v0 := .bool (decide (lo * ad ≤ an))) (v := .bool true) hF (by kernel_rfl) (fun _ => by kernel_rfl) (bT (by omega)) fun a hF => ?_)
                  refine sB 3 [(154, .bool true), (155, .int .i64 hi), (156, .pointer (some ⟨bb3, 1, none⟩))] hF (by kernel_rfl) fun a hF => ?_
                  refine wl (eL 157 3 1 (v := .int .i64 ad) hF hM (by kernel_rfl) rfl rfl (by kernel_rfl) (by kernel_rfl) fun a w hF hM => ?_)
                  have hz104 : -33776997205278720 ≤ hi * ad ∧ hi * ad ≤ 33776997205278750 := mul_bd (-1125899906842624) (1125899906842625) (1) (30) (by omega) (by omega) (by omega) (by omega) (by decide)
                  refine wl (eP 158 (v0 := .int .i64 (IntKind.i64.wrap (hi * ad))) (v := .int .i64 (hi * ad)) hF (by kernel_rfl) (fun _ => by kernel_rfl) (wi (by omega)) fun a hF => ?_)
                  refine sB 1 [(159, .pointer (some ⟨bb3, 0, none⟩))] hF (by kernel_rfl) fun a hF => ?_
                  refine wl (eL 160 3 0 (v := .int .i64 an) hF hM (by kernel_rfl) rfl rfl (by kernel_rfl) (by kernel_rfl) fun a w hF hM => ?_)
                  refine wl (eP 161 (v0 := .bool (decide (an ≤ hi * ad))) (v := .bool true) hF (by kernel_rfl) (fun _ => by kernel_rfl) (bT (by omega)) fun a hF => ?_)
                  refine sB 4 [(162, .bool true), (163, .bool true), (164, .int .i64 hi), (165, .int .i64 lo)] hF (by kernel_rfl) fun a hF => ?_
                  refine wl (eP 166 (v0 := .int .i64 (IntKind.i64.wrap (hi - lo))) (v := .int .i64 (hi - lo)) hF (by kernel_rfl) (fun _ => by kernel_rfl) (wi (by omega)) fun a hF => ?_)
                  refine wl (eP 167 (v0 := .bool (decide (hi - lo ≤ 1))) (v := .bool true) hF (by kernel_rfl) (fun _ => by kernel_rfl) (bT (by omega)) fun a hF => ?_)
                  refine sB 4 [(168, .bool true), (169, .bool true), (170, .int .i64 hi), (171, .int .i64 lo)] hF (by kernel_rfl) fun a hF => ?_
                  refine wl (eP 172 (v0 := .bool (decide (hi = lo))) (v := .bool false) hF (by kernel_rfl) (fun _ => by kernel_rfl) (bF hz94) fun a hF => ?_)
                  refine sB 1 [(173, .pointer (some ⟨bb3, 1, none⟩))] hF (by kernel_rfl) fun a hF => ?_
                  refine wl (eL 174 3 1 (v := .int .i64 ad) hF hM (by kernel_rfl) rfl rfl (by kernel_rfl) (by kernel_rfl) fun a w hF hM => ?_)
                  refine wl (eP 175 (v0 := .bool (decide (ad = 1))) (v := .bool false) hF (by kernel_rfl) (fun _ => by kernel_rfl) (bF hz102) fun a hF => ?_)
                  refine sB 3 [(176, .bool true), (177, .bool true), (4, .bool true)] hF (by kernel_rfl) fun a hF => ?_
                  refine wpList_nil ?_
                  refine hK24 _ _ ?_
                  refine wp_ret ?_
                  refine hR0 _ _ ?_
                  refine ret_of hF hM (.tmp rfl (.nil)) ?_
                  exact ⟨rfl, hM.bel⟩

end Go.Proofs.YtboodcekjooehaaDoor
