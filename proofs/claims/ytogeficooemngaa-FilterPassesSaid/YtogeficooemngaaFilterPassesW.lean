/-
  Find and Pass of the filter.
-/
import Derived.Test.YtogeficooemngaaFiR
import Derived.Test.YtogeficooemngaaFiP
import Derived.Test.YtogeficooemngaaFiE2
import Derived.Test.YtogeficooemngaaOpenRec
namespace Go.Proofs.Ytogeficooemngaa
open Go.RowKit
set_option linter.unusedVariables false
set_option linter.unusedSimpArgs false

set_option maxRecDepth 100000 in
set_option maxHeartbeats 40000000 in
theorem filterPasses_walk (A : Option Addr) (la : List (List Int)) (ca : Nat) (A2 : Option Addr) (lq : List (List Int)) (cq_ : Nat) (now : Int) (A3 : Option Addr) (ls : List Int) (cs : Nat) (A4 : Option Addr) (lm : List (List Int)) (cm : Nat) (port i1 i2 i3 i4 i5 t : Int) (w0 : World) (hA : Ro w0 A (flatR la)) (hW : WR 7 la) (hA2 : Ro w0 A2 (flatR lq)) (hW2 : WR 5 lq) (hA3 : Ro w0 A3 (ls.map (Value.int .i64))) (hA4 : Ro w0 A4 (flatR lm)) (hW4 : WR 3 lm) (hc : (la.length ≤ ca ∧ ca ≤ 9223372036854775807) ∧ (lq.length ≤ cq_ ∧ cq_ ≤ 9223372036854775807) ∧ (ls.length ≤ cs ∧ cs ≤ 9223372036854775807) ∧ lm.length ≤ cm ∧ cm ≤ 9223372036854775807) (hn3 : A3 = none → ls.length = 0 ∧ cs = 0) (hn4 : A4 = none → lm.length = 0 ∧ cm = 0) :
    Calls Try.prog 4 #[.agg #[.slice A la.length ca, .slice A2 lq.length cq_, .int .i64 now, .slice A3 ls.length cs, .slice A4 lm.length cm], .int .i64 port, .agg #[.int .i64 i1, .int .i64 i2, .int .i64 i3, .int .i64 i4, .int .i64 i5], .int .i64 t] w0 (Ret w0 (.bool true)) := by
 refine enterK 143 Try.func4 rfl rfl rfl ?_
 intro a hF Q0 hR0 hN0
 have hM := Mem.start w0
 replace hM := hM.addOld 1 hA (Nat.le_refl _)
 replace hM := hM.addOld 2 hA2 (Nat.le_refl _)
 replace hM := hM.addOld 3 hA3 (Nat.le_refl _)
 replace hM := hM.addOld 4 hA4 (Nat.le_refl _)
 refine wp_seq_k fun K1 hK1 => ?_
 refine wp_region_lit ?_
 refine wl (eN 4 5 (t := 27) (fun b => .pointer (some ⟨b, 0, none⟩)) #[.slice A la.length ca, .slice A2 lq.length cq_, .int .i64 now, .slice A3 ls.length cs, .slice A4 lm.length cm] hF hM (by kernel_rfl) (fun _ => by kernel_rfl) fun bb1 a w hF hM => ?_)
 refine wl (eN 6 6 (t := 39) (fun b => .pointer (some ⟨b, 0, none⟩)) #[.int .i64 i1, .int .i64 i2, .int .i64 i3, .int .i64 i4, .int .i64 i5] hF hM (by kernel_rfl) (fun _ => by kernel_rfl) fun bb2 a w hF hM => ?_)
 refine sB 1 [(8, .bool false)] hF (by kernel_rfl) fun a hF => ?_
 refine wpList_nil ?_
 refine hK1 _ _ ?_
 refine wp_seq_k fun K2 hK2 => ?_
 refine wp_seq_k fun K3 hK3 => ?_
 refine wp_region_lit ?_
 refine wl (eM 19 (v := .bool true) hF hM (by kernel_rfl) (yld_call (f := 9) (args := #[]) hF (by kernel_rfl) (fun _ => by kernel_rfl) (fun w hM => wakes_w w)) fun a w hF hM => ?_)
 refine sB 1 [(20, .bool false)] hF (by kernel_rfl) fun a hF => ?_
 refine wpList_nil ?_
 refine hK3 _ _ ?_
 refine cF hF (by kernel_rfl) (by kernel_rfl) ?_
 refine wp_skip ?_
 refine hK2 _ _ ?_
 refine wp_seq_k fun K4 hK4 => ?_
 refine wp_region_lit ?_
 refine wl (eL 21 5 0 (v := .agg #[.slice A la.length ca, .slice A2 lq.length cq_, .int .i64 now, .slice A3 ls.length cs, .slice A4 lm.length cm]) hF hM (by kernel_rfl) rfl rfl (by kernel_rfl) (by kernel_rfl) fun a w hF hM => ?_)
 refine wl (sC (f := 10) (args := #[.agg #[.slice A la.length ca, .slice A2 lq.length cq_, .int .i64 now, .slice A3 ls.length cs, .slice A4 lm.length cm]]) hF (by kernel_rfl) rfl (by decide) (by kernel_rfl) (fun _ => by kernel_rfl) ?_)
 refine enterK 36 Try.func10 rfl rfl rfl ?_
 intro a1 hF1 QR5 hR5 hNR5
 refine wp_seq_k fun K6 hK6 => ?_
 refine wp_region_lit ?_
 refine wl (eN 1 7 (t := 27) (fun b => .pointer (some ⟨b, 0, none⟩)) #[.slice A la.length ca, .slice A2 lq.length cq_, .int .i64 now, .slice A3 ls.length cs, .slice A4 lm.length cm] hF1 hM (by kernel_rfl) (fun _ => by kernel_rfl) fun bb3 a1 w hF1 hM => ?_)
 refine wl (eN 2 8 (t := 27) (fun b => .pointer (some ⟨b, 0, none⟩)) #[.slice none 0 0, .slice none 0 0, .int .i64 0, .slice none 0 0, .slice none 0 0] hF1 hM (by kernel_rfl) (fun _ => by kernel_rfl) fun bb4 a1 w hF1 hM => ?_)
 refine wpList_nil ?_
 refine hK6 _ _ ?_
 refine wp_seq_k fun K7 hK7 => ?_
 obtain ⟨lsl, e_lsl⟩ : ∃ x : List (List Int), x = la.take ((min (la.length : Int) 65).toNat) := ⟨_, rfl⟩
 have len_lsl : (lsl.length : Int) = min (la.length : Int) 65 := by rw [e_lsl, List.length_take]; omega
 have hW_lsl : WR 7 lsl := e_lsl ▸ WR.take hW
 replace hM := hM.roMore 9 1 (xs' := (flatR lsl)) rfl (by rw [e_lsl]; exact flatR_sub _ hW)
 obtain ⟨lsl_2, e_lsl_2⟩ : ∃ x : List (List Int), x = lq.take ((min (lq.length : Int) 65).toNat) := ⟨_, rfl⟩
 have len_lsl_2 : (lsl_2.length : Int) = min (lq.length : Int) 65 := by rw [e_lsl_2, List.length_take]; omega
 have hW_lsl_2 : WR 5 lsl_2 := e_lsl_2 ▸ WR.take hW2
 replace hM := hM.roMore 10 2 (xs' := (flatR lsl_2)) rfl (by rw [e_lsl_2]; exact flatR_sub _ hW2)
 refine rF (by kernel_rfl) (by kernel_rfl) (fun S a w => Fr 36 [(1, some (.pointer (some ⟨bb3, 0, none⟩))), (2, some (.pointer (some ⟨bb4, 0, none⟩))), (3, (cond (S.getD 0 false) (some (.pointer (some ⟨bb3, 0, none⟩))) none)), (4, (cond (S.getD 1 false) (some (.slice A la.length ca)) none)), (5, (cond (S.getD 2 false) (some (.pointer (some ⟨bb3, 0, none⟩))) none)), (6, (cond (S.getD 3 false) (some (.slice A la.length ca)) none)), (7, (cond (S.getD 4 false) (some (.int .i64 (la.length : Int))) none)), (8, (cond (S.getD 5 false) (some (.int .i64 (min (la.length : Int) 65))) none)), (9, (cond (S.getD 6 false) (some (.slice A lsl.length ca)) none)), (10, (cond (S.getD 7 false) (some (.pointer (some ⟨bb3, 1, none⟩))) none)), (11, (cond (S.getD 8 false) (some (.slice A2 lq.length cq_)) none)), (12, (cond (S.getD 9 false) (some (.pointer (some ⟨bb3, 1, none⟩))) none)), (13, (cond (S.getD 10 false) (some (.slice A2 lq.length cq_)) none)), (14, (cond (S.getD 11 false) (some (.int .i64 (lq.length : Int))) none)), (15, (cond (S.getD 12 false) (some (.int .i64 (min (lq.length : Int) 65))) none)), (16, (cond (S.getD 13 false) (some (.slice A2 lsl_2.length cq_)) none)), (17, (cond (S.getD 14 false) (some (.pointer (some ⟨bb3, 0, none⟩))) none)), (18, (cond (S.getD 16 false) (some (.pointer (some ⟨bb3, 1, none⟩))) none))] a ∧ Mem w0.heap.size w0 [(1, some (.ro A (flatR la))), (2, some (.ro A2 (flatR lq))), (3, some (.ro A3 (ls.map (Value.int .i64)))), (4, some (.ro A4 (flatR lm))), (5, some (.row bb1 27 #[.slice A la.length ca, .slice A2 lq.length cq_, .int .i64 now, .slice A3 ls.length cs, .slice A4 lm.length cm])), (6, some (.row bb2 39 #[.int .i64 i1, .int .i64 i2, .int .i64 i3, .int .i64 i4, .int .i64 i5])), (7, (cond (S.getD 17 false) (some (.row bb3 27 #[.slice A lsl.length ca, .slice A2 lsl_2.length cq_, .int .i64 now, .slice A3 ls.length cs, .slice A4 lm.length cm])) (cond (S.getD 15 false) (some (.row bb3 27 #[.slice A lsl.length ca, .slice A2 lq.length cq_, .int .i64 now, .slice A3 ls.length cs, .slice A4 lm.length cm])) (some (.row bb3 27 #[.slice A la.length ca, .slice A2 lq.length cq_, .int .i64 now, .slice A3 ls.length cs, .slice A4 lm.length cm]))))), (8, some (.row bb4 27 #[.slice none 0 0, .slice none 0 0, .int .i64 0, .slice none 0 0, .slice none 0 0])), (9, some (.ro A (flatR lsl))), (10, some (.ro A2 (flatR lsl_2)))] w) ?_ ?_ ?_
 ·exact ⟨(((((((((((((((((((Fr.nil hF1).co hF1 (i := 18) (by kernel_rfl)).co hF1 (i := 17) (by kernel_rfl)).co hF1 (i := 16) (by kernel_rfl)).co hF1 (i := 15) (by kernel_rfl)).co hF1 (i := 14) (by kernel_rfl)).co hF1 (i := 13) (by kernel_rfl)).co hF1 (i := 12) (by kernel_rfl)).co hF1 (i := 11) (by kernel_rfl)).co hF1 (i := 10) (by kernel_rfl)).co hF1 (i := 9) (by kernel_rfl)).co hF1 (i := 8) (by kernel_rfl)).co hF1 (i := 7) (by kernel_rfl)).co hF1 (i := 6) (by kernel_rfl)).co hF1 (i := 5) (by kernel_rfl)).co hF1 (i := 4) (by kernel_rfl)).co hF1 (i := 3) (by kernel_rfl)).co hF1 (i := 2) (by kernel_rfl)).co hF1 (i := 1) (by kernel_rfl)), hM.drew.sub ((((((((((Sub.nil.co (k := 10) (by kernel_rfl)).co (k := 9) (by kernel_rfl)).co (k := 8) (by kernel_rfl)).co (k := 7) (by kernel_rfl)).co (k := 6) (by kernel_rfl)).co (k := 5) (by kernel_rfl)).co (k := 4) (by kernel_rfl)).co (k := 3) (by kernel_rfl)).co (k := 2) (by kernel_rfl)).co (k := 1) (by kernel_rfl))⟩
 ·refine stC ?_ (stC ?_ (stC ?_ (stC ?_ (stC ?_ (stC ?_ (stC ?_ (stC ?_ (stC ?_ (stC ?_ (stC ?_ (stC ?_ (stC ?_ (stC ?_ (stC ?_ (stC ?_ (stC ?_ (stC ?_ (trivial))))))))))))))))))
  ·intro s0 s1 s2 s3 s4 s5 s6 s7 s8 s9 s10 s11 s12 s13 s14 s15 s16 s17 hc hi hp a w hS
   obtain rfl : s0 = false := hi
   obtain rfl : s15 = false := hc.f 15 0 (by kernel_rfl) rfl
   obtain rfl : s17 = false := hc.f 17 0 (by kernel_rfl) rfl
   obtain ⟨hF1, hM⟩ := hS
   refine eP 3 (v0 := .pointer (some ⟨bb3, 0, none⟩)) (v := .pointer (some ⟨bb3, 0, none⟩)) hF1 (by kernel_rfl) (fun _ => by kernel_rfl) rfl fun a1 hF1 => ?_
   exact ⟨((hF1.repl 2 (by kernel_rfl)).cast (by kernel_rfl)), (hM.cast (by kernel_rfl))⟩
  ·intro s0 s1 s2 s3 s4 s5 s6 s7 s8 s9 s10 s11 s12 s13 s14 s15 s16 s17 hc hi hp a w hS
   obtain rfl : s1 = false := hi
   obtain rfl : s0 = true := hp 0 (by kernel_rfl)
   obtain rfl : s15 = false := hc.f 15 1 (by kernel_rfl) rfl
   obtain rfl : s17 = false := hc.f 17 1 (by kernel_rfl) rfl
   obtain ⟨hF1, hM⟩ := hS
   refine eL 4 7 0 (v := .slice A la.length ca) hF1 hM (by kernel_rfl) rfl rfl (by kernel_rfl) (by kernel_rfl) fun a1 w hF1 hM => ?_
   exact ⟨((hF1.repl 3 (by kernel_rfl)).cast (by kernel_rfl)), (hM.cast (by kernel_rfl))⟩
  ·intro s0 s1 s2 s3 s4 s5 s6 s7 s8 s9 s10 s11 s12 s13 s14 s15 s16 s17 hc hi hp a w hS
   obtain rfl : s2 = false := hi
   obtain rfl : s15 = false := hc.f 15 2 (by kernel_rfl) rfl
   obtain rfl : s17 = false := hc.f 17 2 (by kernel_rfl) rfl
   obtain ⟨hF1, hM⟩ := hS
   refine eP 5 (v0 := .pointer (some ⟨bb3, 0, none⟩)) (v := .pointer (some ⟨bb3, 0, none⟩)) hF1 (by kernel_rfl) (fun _ => by kernel_rfl) rfl fun a1 hF1 => ?_
   exact ⟨((hF1.repl 4 (by kernel_rfl)).cast (by kernel_rfl)), (hM.cast (by kernel_rfl))⟩
  ·intro s0 s1 s2 s3 s4 s5 s6 s7 s8 s9 s10 s11 s12 s13 s14 s15 s16 s17 hc hi hp a w hS
   obtain rfl : s3 = false := hi
   obtain rfl : s2 = true := hp 2 (by kernel_rfl)
   obtain rfl : s15 = false := hc.f 15 3 (by kernel_rfl) rfl
   obtain rfl : s17 = false := hc.f 17 3 (by kernel_rfl) rfl
   obtain ⟨hF1, hM⟩ := hS
   refine eL 6 7 0 (v := .slice A la.length ca) hF1 hM (by kernel_rfl) rfl rfl (by kernel_rfl) (by kernel_rfl) fun a1 w hF1 hM => ?_
   exact ⟨((hF1.repl 5 (by kernel_rfl)).cast (by kernel_rfl)), (hM.cast (by kernel_rfl))⟩
  ·intro s0 s1 s2 s3 s4 s5 s6 s7 s8 s9 s10 s11 s12 s13 s14 s15 s16 s17 hc hi hp a w hS
   obtain rfl : s4 = false := hi
   obtain rfl : s3 = true := hp 3 (by kernel_rfl)
   obtain ⟨hF1, hM⟩ := hS
   refine eP 7 (v0 := .int .i64 (la.length : Int)) (v := .int .i64 (la.length : Int)) hF1 (by kernel_rfl) (fun _ => by kernel_rfl) rfl fun a1 hF1 => ?_
   exact ⟨((hF1.repl 6 (by kernel_rfl)).cast (by kernel_rfl)), (hM.cast (by kernel_rfl))⟩
  ·intro s0 s1 s2 s3 s4 s5 s6 s7 s8 s9 s10 s11 s12 s13 s14 s15 s16 s17 hc hi hp a w hS
   obtain rfl : s5 = false := hi
   obtain rfl : s4 = true := hp 4 (by kernel_rfl)
   obtain ⟨hF1, hM⟩ := hS
   refine eP 8 (v0 := .int .i64 (if 65 < (la.length : Int) then 65 else (la.length : Int))) (v := .int .i64 (min (la.length : Int) 65)) hF1 (by kernel_rfl) (fun _ => by kernel_rfl) (vi (min_if _ _)) fun a1 hF1 => ?_
   exact ⟨((hF1.repl 7 (by kernel_rfl)).cast (by kernel_rfl)), (hM.cast (by kernel_rfl))⟩
  ·intro s0 s1 s2 s3 s4 s5 s6 s7 s8 s9 s10 s11 s12 s13 s14 s15 s16 s17 hc hi hp a w hS
   obtain rfl : s6 = false := hi
   obtain rfl : s5 = true := hp 5 (by kernel_rfl)
   obtain rfl : s1 = true := hp 1 (by kernel_rfl)
   obtain ⟨hF1, hM⟩ := hS
   refine eM 9 (v := .slice A lsl.length ca) hF1 hM (by kernel_rfl) (yld_slice0 (e := 57) (len := la.length) (cap := ca) (m := lsl.length) (A := A) (i := min (la.length : Int) 65) hF1 rfl (by kernel_rfl) (by kernel_rfl) (by kernel_rfl) (by kernel_rfl) (by kernel_rfl) (by omega) (by omega)) fun a1 w hF1 hM => ?_
   exact ⟨((hF1.repl 8 (by kernel_rfl)).cast (by kernel_rfl)), (hM.cast (by kernel_rfl))⟩
  ·intro s0 s1 s2 s3 s4 s5 s6 s7 s8 s9 s10 s11 s12 s13 s14 s15 s16 s17 hc hi hp a w hS
   obtain rfl : s7 = false := hi
   obtain rfl : s15 = false := hc.f 15 7 (by kernel_rfl) rfl
   obtain rfl : s17 = false := hc.f 17 7 (by kernel_rfl) rfl
   obtain ⟨hF1, hM⟩ := hS
   refine eP 10 (v0 := .pointer (some ⟨bb3, 1, none⟩)) (v := .pointer (some ⟨bb3, 1, none⟩)) hF1 (by kernel_rfl) (fun _ => by kernel_rfl) rfl fun a1 hF1 => ?_
   exact ⟨((hF1.repl 9 (by kernel_rfl)).cast (by kernel_rfl)), (hM.cast (by kernel_rfl))⟩
  ·intro s0 s1 s2 s3 s4 s5 s6 s7 s8 s9 s10 s11 s12 s13 s14 s15 s16 s17 hc hi hp a w hS
   obtain rfl : s8 = false := hi
   obtain rfl : s7 = true := hp 7 (by kernel_rfl)
   obtain rfl : s15 = false := hc.f 15 8 (by kernel_rfl) rfl
   obtain rfl : s17 = false := hc.f 17 8 (by kernel_rfl) rfl
   obtain ⟨hF1, hM⟩ := hS
   refine eL 11 7 1 (v := .slice A2 lq.length cq_) hF1 hM (by kernel_rfl) rfl rfl (by kernel_rfl) (by kernel_rfl) fun a1 w hF1 hM => ?_
   exact ⟨((hF1.repl 10 (by kernel_rfl)).cast (by kernel_rfl)), (hM.cast (by kernel_rfl))⟩
  ·intro s0 s1 s2 s3 s4 s5 s6 s7 s8 s9 s10 s11 s12 s13 s14 s15 s16 s17 hc hi hp a w hS
   obtain rfl : s9 = false := hi
   obtain rfl : s15 = false := hc.f 15 9 (by kernel_rfl) rfl
   obtain rfl : s17 = false := hc.f 17 9 (by kernel_rfl) rfl
   obtain ⟨hF1, hM⟩ := hS
   refine eP 12 (v0 := .pointer (some ⟨bb3, 1, none⟩)) (v := .pointer (some ⟨bb3, 1, none⟩)) hF1 (by kernel_rfl) (fun _ => by kernel_rfl) rfl fun a1 hF1 => ?_
   exact ⟨((hF1.repl 11 (by kernel_rfl)).cast (by kernel_rfl)), (hM.cast (by kernel_rfl))⟩
  ·intro s0 s1 s2 s3 s4 s5 s6 s7 s8 s9 s10 s11 s12 s13 s14 s15 s16 s17 hc hi hp a w hS
   obtain rfl : s10 = false := hi
   obtain rfl : s9 = true := hp 9 (by kernel_rfl)
   obtain rfl : s15 = false := hc.f 15 10 (by kernel_rfl) rfl
   obtain rfl : s17 = false := hc.f 17 10 (by kernel_rfl) rfl
   obtain ⟨hF1, hM⟩ := hS
   refine eL 13 7 1 (v := .slice A2 lq.length cq_) hF1 hM (by kernel_rfl) rfl rfl (by kernel_rfl) (by kernel_rfl) fun a1 w hF1 hM => ?_
   exact ⟨((hF1.repl 12 (by kernel_rfl)).cast (by kernel_rfl)), (hM.cast (by kernel_rfl))⟩
  ·intro s0 s1 s2 s3 s4 s5 s6 s7 s8 s9 s10 s11 s12 s13 s14 s15 s16 s17 hc hi hp a w hS
   obtain rfl : s11 = false := hi
   obtain rfl : s10 = true := hp 10 (by kernel_rfl)
   obtain ⟨hF1, hM⟩ := hS
   refine eP 14 (v0 := .int .i64 (lq.length : Int)) (v := .int .i64 (lq.length : Int)) hF1 (by kernel_rfl) (fun _ => by kernel_rfl) rfl fun a1 hF1 => ?_
   exact ⟨((hF1.repl 13 (by kernel_rfl)).cast (by kernel_rfl)), (hM.cast (by kernel_rfl))⟩
  ·intro s0 s1 s2 s3 s4 s5 s6 s7 s8 s9 s10 s11 s12 s13 s14 s15 s16 s17 hc hi hp a w hS
   obtain rfl : s12 = false := hi
   obtain rfl : s11 = true := hp 11 (by kernel_rfl)
   obtain ⟨hF1, hM⟩ := hS
   refine eP 15 (v0 := .int .i64 (if 65 < (lq.length : Int) then 65 else (lq.length : Int))) (v := .int .i64 (min (lq.length : Int) 65)) hF1 (by kernel_rfl) (fun _ => by kernel_rfl) (vi (min_if _ _)) fun a1 hF1 => ?_
   exact ⟨((hF1.repl 14 (by kernel_rfl)).cast (by kernel_rfl)), (hM.cast (by kernel_rfl))⟩
  ·intro s0 s1 s2 s3 s4 s5 s6 s7 s8 s9 s10 s11 s12 s13 s14 s15 s16 s17 hc hi hp a w hS
   obtain rfl : s13 = false := hi
   obtain rfl : s12 = true := hp 12 (by kernel_rfl)
   obtain rfl : s8 = true := hp 8 (by kernel_rfl)
   obtain ⟨hF1, hM⟩ := hS
   refine eM 16 (v := .slice A2 lsl_2.length cq_) hF1 hM (by kernel_rfl) (yld_slice0 (e := 69) (len := lq.length) (cap := cq_) (m := lsl_2.length) (A := A2) (i := min (lq.length : Int) 65) hF1 rfl (by kernel_rfl) (by kernel_rfl) (by kernel_rfl) (by kernel_rfl) (by kernel_rfl) (by omega) (by omega)) fun a1 w hF1 hM => ?_
   exact ⟨((hF1.repl 15 (by kernel_rfl)).cast (by kernel_rfl)), (hM.cast (by kernel_rfl))⟩
  ·intro s0 s1 s2 s3 s4 s5 s6 s7 s8 s9 s10 s11 s12 s13 s14 s15 s16 s17 hc hi hp a w hS
   obtain rfl : s14 = false := hi
   obtain rfl : s15 = false := hc.f 15 14 (by kernel_rfl) rfl
   obtain rfl : s17 = false := hc.f 17 14 (by kernel_rfl) rfl
   obtain ⟨hF1, hM⟩ := hS
   refine eP 17 (v0 := .pointer (some ⟨bb3, 0, none⟩)) (v := .pointer (some ⟨bb3, 0, none⟩)) hF1 (by kernel_rfl) (fun _ => by kernel_rfl) rfl fun a1 hF1 => ?_
   exact ⟨((hF1.repl 16 (by kernel_rfl)).cast (by kernel_rfl)), (hM.cast (by kernel_rfl))⟩
  ·intro s0 s1 s2 s3 s4 s5 s6 s7 s8 s9 s10 s11 s12 s13 s14 s15 s16 s17 hc hi hp a w hS
   obtain rfl : s15 = false := hi
   obtain rfl : s14 = true := hp 14 (by kernel_rfl)
   obtain rfl : s6 = true := hp 6 (by kernel_rfl)
   obtain rfl : s17 = false := hc.f 17 15 (by kernel_rfl) rfl
   obtain ⟨hF1, hM⟩ := hS
   refine sStore (i := 7) (off := 0) (cs' := #[.slice A lsl.length ca, .slice A2 lq.length cq_, .int .i64 now, .slice A3 ls.length cs, .slice A4 lm.length cm]) hF1 hM (by kernel_rfl) rfl rfl (by kernel_rfl) (by kernel_rfl) rfl (by kernel_rfl) fun w hM => ?_
   exact ⟨(hF1.cast (by kernel_rfl)), ((hM.repl 6 (by kernel_rfl)).cast (by kernel_rfl))⟩
  ·intro s0 s1 s2 s3 s4 s5 s6 s7 s8 s9 s10 s11 s12 s13 s14 s15 s16 s17 hc hi hp a w hS
   obtain rfl : s16 = false := hi
   obtain rfl : s15 = true := hp 15 (by kernel_rfl)
   obtain rfl : s17 = false := hc.f 17 16 (by kernel_rfl) rfl
   obtain ⟨hF1, hM⟩ := hS
   refine eP 18 (v0 := .pointer (some ⟨bb3, 1, none⟩)) (v := .pointer (some ⟨bb3, 1, none⟩)) hF1 (by kernel_rfl) (fun _ => by kernel_rfl) rfl fun a1 hF1 => ?_
   exact ⟨((hF1.repl 17 (by kernel_rfl)).cast (by kernel_rfl)), (hM.cast (by kernel_rfl))⟩
  ·intro s0 s1 s2 s3 s4 s5 s6 s7 s8 s9 s10 s11 s12 s13 s14 s15 s16 s17 hc hi hp a w hS
   obtain rfl : s17 = false := hi
   obtain rfl : s16 = true := hp 16 (by kernel_rfl)
   obtain rfl : s15 = true := hp 15 (by kernel_rfl)
   obtain rfl : s13 = true := hp 13 (by kernel_rfl)
   obtain ⟨hF1, hM⟩ := hS
   refine sStore (i := 7) (off := 1) (cs' := #[.slice A lsl.length ca, .slice A2 lsl_2.length cq_, .int .i64 now, .slice A3 ls.length cs, .slice A4 lm.length cm]) hF1 hM (by kernel_rfl) rfl rfl (by kernel_rfl) (by kernel_rfl) rfl (by kernel_rfl) fun w hM => ?_
   exact ⟨(hF1.cast (by kernel_rfl)), ((hM.repl 6 (by kernel_rfl)).cast (by kernel_rfl))⟩
 ·intro a1 w hS
  obtain ⟨hF1, hM⟩ := hS
  replace hF1 : Fr 36 [(1, some (.pointer (some ⟨bb3, 0, none⟩))), (2, some (.pointer (some ⟨bb4, 0, none⟩))), (3, some (.pointer (some ⟨bb3, 0, none⟩))), (4, some (.slice A la.length ca)), (5, some (.pointer (some ⟨bb3, 0, none⟩))), (6, some (.slice A la.length ca)), (7, some (.int .i64 (la.length : Int))), (8, some (.int .i64 (min (la.length : Int) 65))), (9, some (.slice A lsl.length ca)), (10, some (.pointer (some ⟨bb3, 1, none⟩))), (11, some (.slice A2 lq.length cq_)), (12, some (.pointer (some ⟨bb3, 1, none⟩))), (13, some (.slice A2 lq.length cq_)), (14, some (.int .i64 (lq.length : Int))), (15, some (.int .i64 (min (lq.length : Int) 65))), (16, some (.slice A2 lsl_2.length cq_)), (17, some (.pointer (some ⟨bb3, 0, none⟩))), (18, some (.pointer (some ⟨bb3, 1, none⟩)))] a1 := hF1.cast (by kernel_rfl)
  replace hM : Mem w0.heap.size w0 [(1, some (.ro A (flatR la))), (2, some (.ro A2 (flatR lq))), (3, some (.ro A3 (ls.map (Value.int .i64)))), (4, some (.ro A4 (flatR lm))), (5, some (.row bb1 27 #[.slice A la.length ca, .slice A2 lq.length cq_, .int .i64 now, .slice A3 ls.length cs, .slice A4 lm.length cm])), (6, some (.row bb2 39 #[.int .i64 i1, .int .i64 i2, .int .i64 i3, .int .i64 i4, .int .i64 i5])), (7, some (.row bb3 27 #[.slice A lsl.length ca, .slice A2 lsl_2.length cq_, .int .i64 now, .slice A3 ls.length cs, .slice A4 lm.length cm])), (8, some (.row bb4 27 #[.slice none 0 0, .slice none 0 0, .int .i64 0, .slice none 0 0, .slice none 0 0])), (9, some (.ro A (flatR lsl))), (10, some (.ro A2 (flatR lsl_2)))] w := hM.cast (by kernel_rfl)
  refine hK7 _ _ ?_
  refine wp_seq_k fun K8 hK8 => ?_
  obtain ⟨lsl_3, e_lsl_3⟩ : ∃ x : List Int, x = ls.take ((min (ls.length : Int) 65).toNat) := ⟨_, rfl⟩
  have len_lsl_3 : (lsl_3.length : Int) = min (ls.length : Int) 65 := by rw [e_lsl_3, List.length_take]; omega
  replace hM := hM.roMore 11 3 (xs' := (lsl_3.map (Value.int .i64))) rfl (by rw [e_lsl_3]; exact ints_sub _ _)
  obtain ⟨lsl_4, e_lsl_4⟩ : ∃ x : List (List Int), x = lm.take ((min (lm.length : Int) 65).toNat) := ⟨_, rfl⟩
  have len_lsl_4 : (lsl_4.length : Int) = min (lm.length : Int) 65 := by rw [e_lsl_4, List.length_take]; omega
  have hW_lsl_4 : WR 3 lsl_4 := e_lsl_4 ▸ WR.take hW4
  replace hM := hM.roMore 12 4 (xs' := (flatR lsl_4)) rfl (by rw [e_lsl_4]; exact flatR_sub _ hW4)
  refine rF (by kernel_rfl) (by kernel_rfl) (fun S a w => Fr 36 [(1, some (.pointer (some ⟨bb3, 0, none⟩))), (2, some (.pointer (some ⟨bb4, 0, none⟩))), (19, (cond (S.getD 0 false) (some (.pointer (some ⟨bb3, 3, none⟩))) none)), (20, (cond (S.getD 1 false) (some (.slice A3 ls.length cs)) none)), (21, (cond (S.getD 2 false) (some (.pointer (some ⟨bb3, 3, none⟩))) none)), (22, (cond (S.getD 3 false) (some (.slice A3 ls.length cs)) none)), (23, (cond (S.getD 4 false) (some (.int .i64 (ls.length : Int))) none)), (24, (cond (S.getD 5 false) (some (.int .i64 (min (ls.length : Int) 65))) none)), (25, (cond (S.getD 6 false) (some (.slice A3 lsl_3.length cs)) none)), (26, (cond (S.getD 7 false) (some (.pointer (some ⟨bb3, 4, none⟩))) none)), (27, (cond (S.getD 8 false) (some (.slice A4 lm.length cm)) none)), (28, (cond (S.getD 9 false) (some (.pointer (some ⟨bb3, 4, none⟩))) none)), (29, (cond (S.getD 10 false) (some (.slice A4 lm.length cm)) none)), (30, (cond (S.getD 11 false) (some (.int .i64 (lm.length : Int))) none)), (31, (cond (S.getD 12 false) (some (.int .i64 (min (lm.length : Int) 65))) none)), (32, (cond (S.getD 13 false) (some (.slice A4 lsl_4.length cm)) none)), (33, (cond (S.getD 14 false) (some (.pointer (some ⟨bb3, 3, none⟩))) none)), (34, (cond (S.getD 16 false) (some (.pointer (some ⟨bb3, 4, none⟩))) none))] a ∧ Mem w0.heap.size w0 [(1, some (.ro A (flatR la))), (2, some (.ro A2 (flatR lq))), (3, some (.ro A3 (ls.map (Value.int .i64)))), (4, some (.ro A4 (flatR lm))), (5, some (.row bb1 27 #[.slice A la.length ca, .slice A2 lq.length cq_, .int .i64 now, .slice A3 ls.length cs, .slice A4 lm.length cm])), (6, some (.row bb2 39 #[.int .i64 i1, .int .i64 i2, .int .i64 i3, .int .i64 i4, .int .i64 i5])), (7, (cond (S.getD 17 false) (some (.row bb3 27 #[.slice A lsl.length ca, .slice A2 lsl_2.length cq_, .int .i64 now, .slice A3 lsl_3.length cs, .slice A4 lsl_4.length cm])) (cond (S.getD 15 false) (some (.row bb3 27 #[.slice A lsl.length ca, .slice A2 lsl_2.length cq_, .int .i64 now, .slice A3 lsl_3.length cs, .slice A4 lm.length cm])) (some (.row bb3 27 #[.slice A lsl.length ca, .slice A2 lsl_2.length cq_, .int .i64 now, .slice A3 ls.length cs, .slice A4 lm.length cm]))))), (8, some (.row bb4 27 #[.slice none 0 0, .slice none 0 0, .int .i64 0, .slice none 0 0, .slice none 0 0])), (9, some (.ro A (flatR lsl))), (10, some (.ro A2 (flatR lsl_2))), (11, some (.ro A3 (lsl_3.map (Value.int .i64)))), (12, some (.ro A4 (flatR lsl_4)))] w) ?_ ?_ ?_
  ·exact ⟨(((((((((((((((((((Fr.nil hF1).co hF1 (i := 34) (by kernel_rfl)).co hF1 (i := 33) (by kernel_rfl)).co hF1 (i := 32) (by kernel_rfl)).co hF1 (i := 31) (by kernel_rfl)).co hF1 (i := 30) (by kernel_rfl)).co hF1 (i := 29) (by kernel_rfl)).co hF1 (i := 28) (by kernel_rfl)).co hF1 (i := 27) (by kernel_rfl)).co hF1 (i := 26) (by kernel_rfl)).co hF1 (i := 25) (by kernel_rfl)).co hF1 (i := 24) (by kernel_rfl)).co hF1 (i := 23) (by kernel_rfl)).co hF1 (i := 22) (by kernel_rfl)).co hF1 (i := 21) (by kernel_rfl)).co hF1 (i := 20) (by kernel_rfl)).co hF1 (i := 19) (by kernel_rfl)).co hF1 (i := 2) (by kernel_rfl)).co hF1 (i := 1) (by kernel_rfl)), hM.drew.sub ((((((((((((Sub.nil.co (k := 12) (by kernel_rfl)).co (k := 11) (by kernel_rfl)).co (k := 10) (by kernel_rfl)).co (k := 9) (by kernel_rfl)).co (k := 8) (by kernel_rfl)).co (k := 7) (by kernel_rfl)).co (k := 6) (by kernel_rfl)).co (k := 5) (by kernel_rfl)).co (k := 4) (by kernel_rfl)).co (k := 3) (by kernel_rfl)).co (k := 2) (by kernel_rfl)).co (k := 1) (by kernel_rfl))⟩
  ·refine stC ?_ (stC ?_ (stC ?_ (stC ?_ (stC ?_ (stC ?_ (stC ?_ (stC ?_ (stC ?_ (stC ?_ (stC ?_ (stC ?_ (stC ?_ (stC ?_ (stC ?_ (stC ?_ (stC ?_ (stC ?_ (trivial))))))))))))))))))
   ·intro s0 s1 s2 s3 s4 s5 s6 s7 s8 s9 s10 s11 s12 s13 s14 s15 s16 s17 hc hi hp a w hS
    obtain rfl : s0 = false := hi
    obtain rfl : s15 = false := hc.f 15 0 (by kernel_rfl) rfl
    obtain rfl : s17 = false := hc.f 17 0 (by kernel_rfl) rfl
    obtain ⟨hF1, hM⟩ := hS
    refine eP 19 (v0 := .pointer (some ⟨bb3, 3, none⟩)) (v := .pointer (some ⟨bb3, 3, none⟩)) hF1 (by kernel_rfl) (fun _ => by kernel_rfl) rfl fun a1 hF1 => ?_
    exact ⟨((hF1.repl 2 (by kernel_rfl)).cast (by kernel_rfl)), (hM.cast (by kernel_rfl))⟩
   ·intro s0 s1 s2 s3 s4 s5 s6 s7 s8 s9 s10 s11 s12 s13 s14 s15 s16 s17 hc hi hp a w hS
    obtain rfl : s1 = false := hi
    obtain rfl : s0 = true := hp 0 (by kernel_rfl)
    obtain rfl : s15 = false := hc.f 15 1 (by kernel_rfl) rfl
    obtain rfl : s17 = false := hc.f 17 1 (by kernel_rfl) rfl
    obtain ⟨hF1, hM⟩ := hS
    refine eL 20 7 3 (v := .slice A3 ls.length cs) hF1 hM (by kernel_rfl) rfl rfl (by kernel_rfl) (by kernel_rfl) fun a1 w hF1 hM => ?_
    exact ⟨((hF1.repl 3 (by kernel_rfl)).cast (by kernel_rfl)), (hM.cast (by kernel_rfl))⟩
   ·intro s0 s1 s2 s3 s4 s5 s6 s7 s8 s9 s10 s11 s12 s13 s14 s15 s16 s17 hc hi hp a w hS
    obtain rfl : s2 = false := hi
    obtain rfl : s15 = false := hc.f 15 2 (by kernel_rfl) rfl
    obtain rfl : s17 = false := hc.f 17 2 (by kernel_rfl) rfl
    obtain ⟨hF1, hM⟩ := hS
    refine eP 21 (v0 := .pointer (some ⟨bb3, 3, none⟩)) (v := .pointer (some ⟨bb3, 3, none⟩)) hF1 (by kernel_rfl) (fun _ => by kernel_rfl) rfl fun a1 hF1 => ?_
    exact ⟨((hF1.repl 4 (by kernel_rfl)).cast (by kernel_rfl)), (hM.cast (by kernel_rfl))⟩
   ·intro s0 s1 s2 s3 s4 s5 s6 s7 s8 s9 s10 s11 s12 s13 s14 s15 s16 s17 hc hi hp a w hS
    obtain rfl : s3 = false := hi
    obtain rfl : s2 = true := hp 2 (by kernel_rfl)
    obtain rfl : s15 = false := hc.f 15 3 (by kernel_rfl) rfl
    obtain rfl : s17 = false := hc.f 17 3 (by kernel_rfl) rfl
    obtain ⟨hF1, hM⟩ := hS
    refine eL 22 7 3 (v := .slice A3 ls.length cs) hF1 hM (by kernel_rfl) rfl rfl (by kernel_rfl) (by kernel_rfl) fun a1 w hF1 hM => ?_
    exact ⟨((hF1.repl 5 (by kernel_rfl)).cast (by kernel_rfl)), (hM.cast (by kernel_rfl))⟩
   ·intro s0 s1 s2 s3 s4 s5 s6 s7 s8 s9 s10 s11 s12 s13 s14 s15 s16 s17 hc hi hp a w hS
    obtain rfl : s4 = false := hi
    obtain rfl : s3 = true := hp 3 (by kernel_rfl)
    obtain ⟨hF1, hM⟩ := hS
    refine eP 23 (v0 := .int .i64 (ls.length : Int)) (v := .int .i64 (ls.length : Int)) hF1 (by kernel_rfl) (fun _ => by kernel_rfl) rfl fun a1 hF1 => ?_
    exact ⟨((hF1.repl 6 (by kernel_rfl)).cast (by kernel_rfl)), (hM.cast (by kernel_rfl))⟩
   ·intro s0 s1 s2 s3 s4 s5 s6 s7 s8 s9 s10 s11 s12 s13 s14 s15 s16 s17 hc hi hp a w hS
    obtain rfl : s5 = false := hi
    obtain rfl : s4 = true := hp 4 (by kernel_rfl)
    obtain ⟨hF1, hM⟩ := hS
    refine eP 24 (v0 := .int .i64 (if 65 < (ls.length : Int) then 65 else (ls.length : Int))) (v := .int .i64 (min (ls.length : Int) 65)) hF1 (by kernel_rfl) (fun _ => by kernel_rfl) (vi (min_if _ _)) fun a1 hF1 => ?_
    exact ⟨((hF1.repl 7 (by kernel_rfl)).cast (by kernel_rfl)), (hM.cast (by kernel_rfl))⟩
   ·intro s0 s1 s2 s3 s4 s5 s6 s7 s8 s9 s10 s11 s12 s13 s14 s15 s16 s17 hc hi hp a w hS
    obtain rfl : s6 = false := hi
    obtain rfl : s5 = true := hp 5 (by kernel_rfl)
    obtain rfl : s1 = true := hp 1 (by kernel_rfl)
    obtain ⟨hF1, hM⟩ := hS
    refine eM 25 (v := .slice A3 lsl_3.length cs) hF1 hM (by kernel_rfl) (yld_slice0 (e := 3) (len := ls.length) (cap := cs) (m := lsl_3.length) (A := A3) (i := min (ls.length : Int) 65) hF1 rfl (by kernel_rfl) (by kernel_rfl) (by kernel_rfl) (by kernel_rfl) (by kernel_rfl) (by omega) (by omega)) fun a1 w hF1 hM => ?_
    exact ⟨((hF1.repl 8 (by kernel_rfl)).cast (by kernel_rfl)), (hM.cast (by kernel_rfl))⟩
   ·intro s0 s1 s2 s3 s4 s5 s6 s7 s8 s9 s10 s11 s12 s13 s14 s15 s16 s17 hc hi hp a w hS
    obtain rfl : s7 = false := hi
    obtain rfl : s15 = false := hc.f 15 7 (by kernel_rfl) rfl
    obtain rfl : s17 = false := hc.f 17 7 (by kernel_rfl) rfl
    obtain ⟨hF1, hM⟩ := hS
    refine eP 26 (v0 := .pointer (some ⟨bb3, 4, none⟩)) (v := .pointer (some ⟨bb3, 4, none⟩)) hF1 (by kernel_rfl) (fun _ => by kernel_rfl) rfl fun a1 hF1 => ?_
    exact ⟨((hF1.repl 9 (by kernel_rfl)).cast (by kernel_rfl)), (hM.cast (by kernel_rfl))⟩
   ·intro s0 s1 s2 s3 s4 s5 s6 s7 s8 s9 s10 s11 s12 s13 s14 s15 s16 s17 hc hi hp a w hS
    obtain rfl : s8 = false := hi
    obtain rfl : s7 = true := hp 7 (by kernel_rfl)
    obtain rfl : s15 = false := hc.f 15 8 (by kernel_rfl) rfl
    obtain rfl : s17 = false := hc.f 17 8 (by kernel_rfl) rfl
    obtain ⟨hF1, hM⟩ := hS
    refine eL 27 7 4 (v := .slice A4 lm.length cm) hF1 hM (by kernel_rfl) rfl rfl (by kernel_rfl) (by kernel_rfl) fun a1 w hF1 hM => ?_
    exact ⟨((hF1.repl 10 (by kernel_rfl)).cast (by kernel_rfl)), (hM.cast (by kernel_rfl))⟩
   ·intro s0 s1 s2 s3 s4 s5 s6 s7 s8 s9 s10 s11 s12 s13 s14 s15 s16 s17 hc hi hp a w hS
    obtain rfl : s9 = false := hi
    obtain rfl : s15 = false := hc.f 15 9 (by kernel_rfl) rfl
    obtain rfl : s17 = false := hc.f 17 9 (by kernel_rfl) rfl
    obtain ⟨hF1, hM⟩ := hS
    refine eP 28 (v0 := .pointer (some ⟨bb3, 4, none⟩)) (v := .pointer (some ⟨bb3, 4, none⟩)) hF1 (by kernel_rfl) (fun _ => by kernel_rfl) rfl fun a1 hF1 => ?_
    exact ⟨((hF1.repl 11 (by kernel_rfl)).cast (by kernel_rfl)), (hM.cast (by kernel_rfl))⟩
   ·intro s0 s1 s2 s3 s4 s5 s6 s7 s8 s9 s10 s11 s12 s13 s14 s15 s16 s17 hc hi hp a w hS
    obtain rfl : s10 = false := hi
    obtain rfl : s9 = true := hp 9 (by kernel_rfl)
    obtain rfl : s15 = false := hc.f 15 10 (by kernel_rfl) rfl
    obtain rfl : s17 = false := hc.f 17 10 (by kernel_rfl) rfl
    obtain ⟨hF1, hM⟩ := hS
    refine eL 29 7 4 (v := .slice A4 lm.length cm) hF1 hM (by kernel_rfl) rfl rfl (by kernel_rfl) (by kernel_rfl) fun a1 w hF1 hM => ?_
    exact ⟨((hF1.repl 12 (by kernel_rfl)).cast (by kernel_rfl)), (hM.cast (by kernel_rfl))⟩
   ·intro s0 s1 s2 s3 s4 s5 s6 s7 s8 s9 s10 s11 s12 s13 s14 s15 s16 s17 hc hi hp a w hS
    obtain rfl : s11 = false := hi
    obtain rfl : s10 = true := hp 10 (by kernel_rfl)
    obtain ⟨hF1, hM⟩ := hS
    refine eP 30 (v0 := .int .i64 (lm.length : Int)) (v := .int .i64 (lm.length : Int)) hF1 (by kernel_rfl) (fun _ => by kernel_rfl) rfl fun a1 hF1 => ?_
    exact ⟨((hF1.repl 13 (by kernel_rfl)).cast (by kernel_rfl)), (hM.cast (by kernel_rfl))⟩
   ·intro s0 s1 s2 s3 s4 s5 s6 s7 s8 s9 s10 s11 s12 s13 s14 s15 s16 s17 hc hi hp a w hS
    obtain rfl : s12 = false := hi
    obtain rfl : s11 = true := hp 11 (by kernel_rfl)
    obtain ⟨hF1, hM⟩ := hS
    refine eP 31 (v0 := .int .i64 (if 65 < (lm.length : Int) then 65 else (lm.length : Int))) (v := .int .i64 (min (lm.length : Int) 65)) hF1 (by kernel_rfl) (fun _ => by kernel_rfl) (vi (min_if _ _)) fun a1 hF1 => ?_
    exact ⟨((hF1.repl 14 (by kernel_rfl)).cast (by kernel_rfl)), (hM.cast (by kernel_rfl))⟩
   ·intro s0 s1 s2 s3 s4 s5 s6 s7 s8 s9 s10 s11 s12 s13 s14 s15 s16 s17 hc hi hp a w hS
    obtain rfl : s13 = false := hi
    obtain rfl : s12 = true := hp 12 (by kernel_rfl)
    obtain rfl : s8 = true := hp 8 (by kernel_rfl)
    obtain ⟨hF1, hM⟩ := hS
    refine eM 32 (v := .slice A4 lsl_4.length cm) hF1 hM (by kernel_rfl) (yld_slice0 (e := 80) (len := lm.length) (cap := cm) (m := lsl_4.length) (A := A4) (i := min (lm.length : Int) 65) hF1 rfl (by kernel_rfl) (by kernel_rfl) (by kernel_rfl) (by kernel_rfl) (by kernel_rfl) (by omega) (by omega)) fun a1 w hF1 hM => ?_
    exact ⟨((hF1.repl 15 (by kernel_rfl)).cast (by kernel_rfl)), (hM.cast (by kernel_rfl))⟩
   ·intro s0 s1 s2 s3 s4 s5 s6 s7 s8 s9 s10 s11 s12 s13 s14 s15 s16 s17 hc hi hp a w hS
    obtain rfl : s14 = false := hi
    obtain rfl : s15 = false := hc.f 15 14 (by kernel_rfl) rfl
    obtain rfl : s17 = false := hc.f 17 14 (by kernel_rfl) rfl
    obtain ⟨hF1, hM⟩ := hS
    refine eP 33 (v0 := .pointer (some ⟨bb3, 3, none⟩)) (v := .pointer (some ⟨bb3, 3, none⟩)) hF1 (by kernel_rfl) (fun _ => by kernel_rfl) rfl fun a1 hF1 => ?_
    exact ⟨((hF1.repl 16 (by kernel_rfl)).cast (by kernel_rfl)), (hM.cast (by kernel_rfl))⟩
   ·intro s0 s1 s2 s3 s4 s5 s6 s7 s8 s9 s10 s11 s12 s13 s14 s15 s16 s17 hc hi hp a w hS
    obtain rfl : s15 = false := hi
    obtain rfl : s14 = true := hp 14 (by kernel_rfl)
    obtain rfl : s6 = true := hp 6 (by kernel_rfl)
    obtain rfl : s17 = false := hc.f 17 15 (by kernel_rfl) rfl
    obtain ⟨hF1, hM⟩ := hS
    refine sStore (i := 7) (off := 3) (cs' := #[.slice A lsl.length ca, .slice A2 lsl_2.length cq_, .int .i64 now, .slice A3 lsl_3.length cs, .slice A4 lm.length cm]) hF1 hM (by kernel_rfl) rfl rfl (by kernel_rfl) (by kernel_rfl) rfl (by kernel_rfl) fun w hM => ?_
    exact ⟨(hF1.cast (by kernel_rfl)), ((hM.repl 6 (by kernel_rfl)).cast (by kernel_rfl))⟩
   ·intro s0 s1 s2 s3 s4 s5 s6 s7 s8 s9 s10 s11 s12 s13 s14 s15 s16 s17 hc hi hp a w hS
    obtain rfl : s16 = false := hi
    obtain rfl : s15 = true := hp 15 (by kernel_rfl)
    obtain rfl : s17 = false := hc.f 17 16 (by kernel_rfl) rfl
    obtain ⟨hF1, hM⟩ := hS
    refine eP 34 (v0 := .pointer (some ⟨bb3, 4, none⟩)) (v := .pointer (some ⟨bb3, 4, none⟩)) hF1 (by kernel_rfl) (fun _ => by kernel_rfl) rfl fun a1 hF1 => ?_
    exact ⟨((hF1.repl 17 (by kernel_rfl)).cast (by kernel_rfl)), (hM.cast (by kernel_rfl))⟩
   ·intro s0 s1 s2 s3 s4 s5 s6 s7 s8 s9 s10 s11 s12 s13 s14 s15 s16 s17 hc hi hp a w hS
    obtain rfl : s17 = false := hi
    obtain rfl : s16 = true := hp 16 (by kernel_rfl)
    obtain rfl : s15 = true := hp 15 (by kernel_rfl)
    obtain rfl : s13 = true := hp 13 (by kernel_rfl)
    obtain ⟨hF1, hM⟩ := hS
    refine sStore (i := 7) (off := 4) (cs' := #[.slice A lsl.length ca, .slice A2 lsl_2.length cq_, .int .i64 now, .slice A3 lsl_3.length cs, .slice A4 lsl_4.length cm]) hF1 hM (by kernel_rfl) rfl rfl (by kernel_rfl) (by kernel_rfl) rfl (by kernel_rfl) fun w hM => ?_
    exact ⟨(hF1.cast (by kernel_rfl)), ((hM.repl 6 (by kernel_rfl)).cast (by kernel_rfl))⟩
  ·intro a1 w hS
   obtain ⟨hF1, hM⟩ := hS
   replace hF1 : Fr 36 [(1, some (.pointer (some ⟨bb3, 0, none⟩))), (2, some (.pointer (some ⟨bb4, 0, none⟩))), (19, some (.pointer (some ⟨bb3, 3, none⟩))), (20, some (.slice A3 ls.length cs)), (21, some (.pointer (some ⟨bb3, 3, none⟩))), (22, some (.slice A3 ls.length cs)), (23, some (.int .i64 (ls.length : Int))), (24, some (.int .i64 (min (ls.length : Int) 65))), (25, some (.slice A3 lsl_3.length cs)), (26, some (.pointer (some ⟨bb3, 4, none⟩))), (27, some (.slice A4 lm.length cm)), (28, some (.pointer (some ⟨bb3, 4, none⟩))), (29, some (.slice A4 lm.length cm)), (30, some (.int .i64 (lm.length : Int))), (31, some (.int .i64 (min (lm.length : Int) 65))), (32, some (.slice A4 lsl_4.length cm)), (33, some (.pointer (some ⟨bb3, 3, none⟩))), (34, some (.pointer (some ⟨bb3, 4, none⟩)))] a1 := hF1.cast (by kernel_rfl)
   replace hM : Mem w0.heap.size w0 [(1, some (.ro A (flatR la))), (2, some (.ro A2 (flatR lq))), (3, some (.ro A3 (ls.map (Value.int .i64)))), (4, some (.ro A4 (flatR lm))), (5, some (.row bb1 27 #[.slice A la.length ca, .slice A2 lq.length cq_, .int .i64 now, .slice A3 ls.length cs, .slice A4 lm.length cm])), (6, some (.row bb2 39 #[.int .i64 i1, .int .i64 i2, .int .i64 i3, .int .i64 i4, .int .i64 i5])), (7, some (.row bb3 27 #[.slice A lsl.length ca, .slice A2 lsl_2.length cq_, .int .i64 now, .slice A3 lsl_3.length cs, .slice A4 lsl_4.length cm])), (8, some (.row bb4 27 #[.slice none 0 0, .slice none 0 0, .int .i64 0, .slice none 0 0, .slice none 0 0])), (9, some (.ro A (flatR lsl))), (10, some (.ro A2 (flatR lsl_2))), (11, some (.ro A3 (lsl_3.map (Value.int .i64)))), (12, some (.ro A4 (flatR lsl_4)))] w := hM.cast (by kernel_rfl)
   refine hK8 _ _ ?_
   refine wp_seq_k fun K9 hK9 => ?_
   refine wp_region_lit ?_
   refine wl (eL 35 7 0 (v := .agg #[.slice A lsl.length ca, .slice A2 lsl_2.length cq_, .int .i64 now, .slice A3 lsl_3.length cs, .slice A4 lsl_4.length cm]) hF1 hM (by kernel_rfl) rfl rfl (by kernel_rfl) (by kernel_rfl) fun a1 w hF1 hM => ?_)
   refine wl (sStore (i := 8) (off := 0) (cs' := #[.slice A lsl.length ca, .slice A2 lsl_2.length cq_, .int .i64 now, .slice A3 lsl_3.length cs, .slice A4 lsl_4.length cm]) hF1 hM (by kernel_rfl) rfl rfl (by kernel_rfl) (by kernel_rfl) rfl (by kernel_rfl) fun w hM => ?_)
   refine wpList_nil ?_
   refine hK9 _ _ ?_
   refine wp_ret ?_
   refine hR5 _ _ ?_
   refine ret_of hF1 hM (.cell (i := 8) rfl rfl (v := .agg #[.slice A lsl.length ca, .slice A2 lsl_2.length cq_, .int .i64 now, .slice A3 lsl_3.length cs, .slice A4 lsl_4.length cm]) (by kernel_rfl) (.nil)) ⟨_, rfl, ?_⟩
   intro a hF
   refine wl (eN 9 13 (t := 27) (fun b => .pointer (some ⟨b, 0, none⟩)) #[.slice none 0 0, .slice none 0 0, .int .i64 0, .slice none 0 0, .slice none 0 0] hF hM (by kernel_rfl) (fun _ => by kernel_rfl) fun bb5 a w hF hM => ?_)
   refine wl (sStore (i := 13) (off := 0) (cs' := #[.slice A lsl.length ca, .slice A2 lsl_2.length cq_, .int .i64 now, .slice A3 lsl_3.length cs, .slice A4 lsl_4.length cm]) hF hM (by kernel_rfl) rfl rfl (by kernel_rfl) (by kernel_rfl) rfl (by kernel_rfl) fun w hM => ?_)
   refine wpList_nil ?_
   refine hK4 _ _ ?_
   refine wp_seq_k fun K10 hK10 => ?_
   by_cases hz1 : flE lsl lsl_2 now lsl_3 lsl_4 = 0
   ·skip
    cases hz2 : (viB i1 i2 i3 i4 i5)
    ·skip
     refine wp_region_lit ?_
     refine wl (eL 24 13 0 (v := .agg #[.slice A lsl.length ca, .slice A2 lsl_2.length cq_, .int .i64 now, .slice A3 lsl_3.length cs, .slice A4 lsl_4.length cm]) hF hM (by kernel_rfl) rfl rfl (by kernel_rfl) (by kernel_rfl) fun a w hF hM => ?_)
     refine sB 1 [(25, .int .i64 port)] hF (by kernel_rfl) fun a hF => ?_
     refine wl (eL 26 6 0 (v := .agg #[.int .i64 i1, .int .i64 i2, .int .i64 i3, .int .i64 i4, .int .i64 i5]) hF hM (by kernel_rfl) rfl rfl (by kernel_rfl) (by kernel_rfl) fun a w hF hM => ?_)
     refine wl (eM 27 (v := .tuple #[.int .i64 0, .int .i64 460]) hF hM (by kernel_rfl) (yld_call (f := 16) (args := #[.agg #[.slice A lsl.length ca, .slice A2 lsl_2.length cq_, .int .i64 now, .slice A3 lsl_3.length cs, .slice A4 lsl_4.length cm], .int .i64 port, .agg #[.int .i64 i1, .int .i64 i2, .int .i64 i3, .int .i64 i4, .int .i64 i5]]) hF (by kernel_rfl) (fun _ => by kernel_rfl) (fun w hM => calls_val (fn_460 hz1 hz2) (fiFind_x A lsl ca A2 lsl_2 cq_ now A3 lsl_3 cs A4 lsl_4 cm port i1 i2 i3 i4 i5 w (hM.ok 9 _ rfl) hW_lsl (hM.ok 10 _ rfl) hW_lsl_2 (hM.ok 11 _ rfl) (hM.ok 12 _ rfl) hW_lsl_4 rfl rfl rfl rfl))) fun a w hF hM => ?_)
     refine sB 5 [(23, .tuple #[.int .i64 0, .int .i64 460]), (28, .int .i64 0), (29, .int .i64 460), (10, .int .i64 0), (11, .int .i64 460)] hF (by kernel_rfl) fun a hF => ?_
     refine wpList_nil ?_
     refine hK10 _ _ ?_
     refine wp_seq_k fun K11 hK11 => ?_
     by_cases hz3 : 0 ≤ port
     ·skip
      by_cases hz4 : port ≤ 47
      ·skip
       refine wp_region_lit ?_
       refine wl (eL 31 13 0 (v := .agg #[.slice A lsl.length ca, .slice A2 lsl_2.length cq_, .int .i64 now, .slice A3 lsl_3.length cs, .slice A4 lsl_4.length cm]) hF hM (by kernel_rfl) rfl rfl (by kernel_rfl) (by kernel_rfl) fun a w hF hM => ?_)
       refine sB 1 [(32, .int .i64 port)] hF (by kernel_rfl) fun a hF => ?_
       refine wl (eL 33 6 0 (v := .agg #[.int .i64 i1, .int .i64 i2, .int .i64 i3, .int .i64 i4, .int .i64 i5]) hF hM (by kernel_rfl) rfl rfl (by kernel_rfl) (by kernel_rfl) fun a w hF hM => ?_)
       refine sB 1 [(34, .int .i64 t)] hF (by kernel_rfl) fun a hF => ?_
       refine wl (eM 35 (v := .tuple #[.agg #[.slice none 0 0, .slice none 0 0, .int .i64 0, .slice none 0 0, .slice none 0 0], .int .i64 0, .int .i64 460]) hF hM (by kernel_rfl) (yld_call (f := 17) (args := #[.agg #[.slice A lsl.length ca, .slice A2 lsl_2.length cq_, .int .i64 now, .slice A3 lsl_3.length cs, .slice A4 lsl_4.length cm], .int .i64 port, .agg #[.int .i64 i1, .int .i64 i2, .int .i64 i3, .int .i64 i4, .int .i64 i5], .int .i64 t]) hF (by kernel_rfl) (fun _ => by kernel_rfl) (fun w hM => ps_err (ps_460 hz1 ⟨hz3, hz4⟩ hz2) (by decide) (fun q => fiPass_no A lsl ca A2 lsl_2 cq_ now A3 lsl_3 cs A4 lsl_4 cm port i1 i2 i3 i4 i5 t w (hM.ok 9 _ rfl) hW_lsl (hM.ok 10 _ rfl) hW_lsl_2 (hM.ok 11 _ rfl) (hM.ok 12 _ rfl) hW_lsl_4 q))) fun a w hF hM => ?_)
       refine sB 4 [(30, .tuple #[.agg #[.slice none 0 0, .slice none 0 0, .int .i64 0, .slice none 0 0, .slice none 0 0], .int .i64 0, .int .i64 460]), (36, .agg #[.slice none 0 0, .slice none 0 0, .int .i64 0, .slice none 0 0, .slice none 0 0]), (37, .int .i64 0), (38, .int .i64 460)] hF (by kernel_rfl) fun a hF => ?_
       refine wl (eN 12 14 (t := 27) (fun b => .pointer (some ⟨b, 0, none⟩)) #[.slice none 0 0, .slice none 0 0, .int .i64 0, .slice none 0 0, .slice none 0 0] hF hM (by kernel_rfl) (fun _ => by kernel_rfl) fun bb6 a w hF hM => ?_)
       refine wl (sStore (i := 14) (off := 0) (cs' := #[.slice none 0 0, .slice none 0 0, .int .i64 0, .slice none 0 0, .slice none 0 0]) hF hM (by kernel_rfl) rfl rfl (by kernel_rfl) (by kernel_rfl) rfl (by kernel_rfl) fun w hM => ?_)
       refine sB 2 [(13, .int .i64 0), (14, .int .i64 460)] hF (by kernel_rfl) fun a hF => ?_
       refine wpList_nil ?_
       refine hK11 _ _ ?_
       refine wp_seq_k fun K12 hK12 => ?_
       refine wp_seq_k fun K13 hK13 => ?_
       have hfr := flB_yes hz1
       refine wp_region_lit ?_
       refine wl (eL 39 13 0 (v := .agg #[.slice A lsl.length ca, .slice A2 lsl_2.length cq_, .int .i64 now, .slice A3 lsl_3.length cs, .slice A4 lsl_4.length cm]) hF hM (by kernel_rfl) rfl rfl (by kernel_rfl) (by kernel_rfl) fun a w hF hM => ?_)
       refine wl (eM 40 (v := .bool true) hF hM (by kernel_rfl) (Yld.to (yld_call (f := 11) (args := #[.agg #[.slice A lsl.length ca, .slice A2 lsl_2.length cq_, .int .i64 now, .slice A3 lsl_3.length cs, .slice A4 lsl_4.length cm]]) hF (by kernel_rfl) (fun _ => by kernel_rfl) (fun w hM => rRight33_x A lsl ca A2 lsl_2 cq_ now A3 lsl_3 cs A4 lsl_4 cm w (hM.ok 9 _ rfl) hW_lsl (hM.ok 10 _ rfl) hW_lsl_2 (hM.ok 11 _ rfl) (hM.ok 12 _ rfl) hW_lsl_4 rfl rfl rfl rfl)) (congrArg Value.bool hfr)) fun a w hF hM => ?_)
       refine sB 1 [(41, .bool false)] hF (by kernel_rfl) fun a hF => ?_
       refine wpList_nil ?_
       refine hK13 _ _ ?_
       refine cF hF (by kernel_rfl) (by kernel_rfl) ?_
       refine wp_skip ?_
       refine hK12 _ _ ?_
       refine wp_seq_k fun K14 hK14 => ?_
       refine wp_region_lit ?_
       refine wl (eL 61 6 0 (v := .agg #[.int .i64 i1, .int .i64 i2, .int .i64 i3, .int .i64 i4, .int .i64 i5]) hF hM (by kernel_rfl) rfl rfl (by kernel_rfl) (by kernel_rfl) fun a w hF hM => ?_)
       refine wl (eM 62 (v := .bool false) hF hM (by kernel_rfl) (Yld.to (yld_call (f := 18) (args := #[.agg #[.int .i64 i1, .int .i64 i2, .int .i64 i3, .int .i64 i4, .int .i64 i5]]) hF (by kernel_rfl) (fun _ => by kernel_rfl) (fun w hM => rItem33_w i1 i2 i3 i4 i5 w)) (congrArg Value.bool hz2)) fun a w hF hM => ?_)
       refine sB 1 [(15, .bool false)] hF (by kernel_rfl) fun a hF => ?_
       refine wpList_nil ?_
       refine hK14 _ _ ?_
       refine wp_seq_k fun K15 hK15 => ?_
       refine wp_seq_k fun K16 hK16 => ?_
       refine wp_region_lit ?_
       refine sB 18 [(63, .bool false), (64, .bool false), (65, undef), (66, undef), (67, undef), (68, undef), (69, undef), (70, undef), (71, undef), (72, undef), (73, undef), (74, undef), (75, .bool false), (76, .bool false), (77, .bool false), (78, .bool true), (79, .bool true), (80, .int .i64 0)] hF (by kernel_rfl) fun a hF => ?_
       refine wl (eP 81 (v0 := .bool (!decide (0 = 0))) (v := .bool false) hF (by kernel_rfl) (fun _ => by kernel_rfl) (nT (by omega)) fun a hF => ?_)
       refine sB 2 [(82, .bool false), (83, .int .i64 460)] hF (by kernel_rfl) fun a hF => ?_
       refine wl (eP 84 (v0 := .bool (!decide (460 = 460))) (v := .bool false) hF (by kernel_rfl) (fun _ => by kernel_rfl) (nT (by omega)) fun a hF => ?_)
       refine sB 3 [(85, .bool false), (86, .bool false), (87, .bool false)] hF (by kernel_rfl) fun a hF => ?_
       refine wpList_nil ?_
       refine hK16 _ _ ?_
       refine cF hF (by kernel_rfl) (by kernel_rfl) ?_
       refine wp_skip ?_
       refine hK15 _ _ ?_
       refine wp_seq_k fun K17 hK17 => ?_
       refine wp_region_lit ?_
       refine sB 1 [(16, .int .i64 0)] hF (by kernel_rfl) fun a hF => ?_
       refine wpList_nil ?_
       refine hK17 _ _ ?_
       refine wp_seq_k fun K18 hK18 => ?_
       refine wp_seq_k fun K19 hK19 => ?_
       refine wp_region_lit ?_
       refine sB 1 [(88, .int .i64 port)] hF (by kernel_rfl) fun a hF => ?_
       refine wl (eP 89 (v0 := .bool (decide (port < 0))) (v := .bool false) hF (by kernel_rfl) (fun _ => by kernel_rfl) (bF (by omega)) fun a hF => ?_)
       refine sB 2 [(90, .bool false), (91, .int .i64 port)] hF (by kernel_rfl) fun a hF => ?_
       refine wl (eP 92 (v0 := .bool (decide (47 < port))) (v := .bool false) hF (by kernel_rfl) (fun _ => by kernel_rfl) (bF (by omega)) fun a hF => ?_)
       refine sB 1 [(93, .bool false)] hF (by kernel_rfl) fun a hF => ?_
       refine wpList_nil ?_
       refine hK19 _ _ ?_
       refine cF hF (by kernel_rfl) (by kernel_rfl) ?_
       refine wp_seq_k fun K20 hK20 => ?_
       refine wp_region_lit ?_
       refine sB 2 [(94, .bool false), (95, .bool true)] hF (by kernel_rfl) fun a hF => ?_
       refine wpList_nil ?_
       refine hK20 _ _ ?_
       refine cT hF (by kernel_rfl) (by kernel_rfl) ?_
       refine wp_region_lit ?_
       refine sB 1 [(16, .int .i64 460)] hF (by kernel_rfl) fun a hF => ?_
       refine wpList_nil ?_
       refine hK18 _ _ ?_
       refine wp_seq_k fun K21 hK21 => ?_
       refine wp_seq_k fun K22 hK22 => ?_
       refine wp_region_lit ?_
       refine sB 1 [(104, .int .i64 460)] hF (by kernel_rfl) fun a hF => ?_
       refine wl (eP 105 (v0 := .bool (!decide (460 = 0))) (v := .bool true) hF (by kernel_rfl) (fun _ => by kernel_rfl) (nF (by omega)) fun a hF => ?_)
       refine wpList_nil ?_
       refine hK22 _ _ ?_
       refine cT hF (by kernel_rfl) (by kernel_rfl) ?_
       refine wp_seq_k fun K23 hK23 => ?_
       refine wp_region_lit ?_
       refine wl (eL 106 14 0 (v := .agg #[.slice none 0 0, .slice none 0 0, .int .i64 0, .slice none 0 0, .slice none 0 0]) hF hM (by kernel_rfl) rfl rfl (by kernel_rfl) (by kernel_rfl) fun a w hF hM => ?_)
       refine sB 1 [(107, .agg #[.slice none 0 0, .slice none 0 0, .int .i64 0, .slice none 0 0, .slice none 0 0])] hF (by kernel_rfl) fun a hF => ?_
       refine wl (eM 108 (v := .bool true) hF hM (by kernel_rfl) (yld_call (f := 15) (args := #[.agg #[.slice none 0 0, .slice none 0 0, .int .i64 0, .slice none 0 0, .slice none 0 0], .agg #[.slice none 0 0, .slice none 0 0, .int .i64 0, .slice none 0 0, .slice none 0 0]]) hF (by kernel_rfl) (fun _ => by kernel_rfl) (fun w hM => calls_bool (same_refl ([] : List (List Int)) ([] : List (List Int)) 0 ([] : List Int) ([] : List (List Int))) (same33_x none ([] : List (List Int)) 0 none ([] : List (List Int)) 0 0 none ([] : List Int) 0 none ([] : List (List Int)) 0 none ([] : List (List Int)) 0 none ([] : List (List Int)) 0 0 none ([] : List Int) 0 none ([] : List (List Int)) 0 w Ro.nil WR.nil Ro.nil WR.nil Ro.nil Ro.nil WR.nil Ro.nil WR.nil Ro.nil WR.nil Ro.nil Ro.nil WR.nil ⟨by first | omega | decide, by first | omega | decide, by first | omega | decide, by first | omega | decide⟩ rfl rfl rfl rfl rfl rfl rfl rfl))) fun a w hF hM => ?_)
       refine sB 2 [(109, .bool true), (110, .int .i64 0)] hF (by kernel_rfl) fun a hF => ?_
       refine wl (eP 111 (v0 := .bool (decide (0 = 0))) (v := .bool true) hF (by kernel_rfl) (fun _ => by kernel_rfl) (bT (by omega)) fun a hF => ?_)
       refine sB 4 [(112, .bool true), (113, .bool true), (114, .int .i64 460), (115, .int .i64 460)] hF (by kernel_rfl) fun a hF => ?_
       refine wl (eP 116 (v0 := .bool (decide (460 = 460))) (v := .bool true) hF (by kernel_rfl) (fun _ => by kernel_rfl) (bT (by omega)) fun a hF => ?_)
       refine sB 2 [(117, .bool true), (8, .bool true)] hF (by kernel_rfl) fun a hF => ?_
       refine wpList_nil ?_
       refine hK23 _ _ ?_
       refine wp_ret ?_
       refine hR0 _ _ ?_
       refine ret_of hF hM (.tmp rfl (.nil)) ?_
       exact ⟨rfl, hM.bel⟩
      ·skip
       refine wp_region_lit ?_
       refine wl (eL 31 13 0 (v := .agg #[.slice A lsl.length ca, .slice A2 lsl_2.length cq_, .int .i64 now, .slice A3 lsl_3.length cs, .slice A4 lsl_4.length cm]) hF hM (by kernel_rfl) rfl rfl (by kernel_rfl) (by kernel_rfl) fun a w hF hM => ?_)
       refine sB 1 [(32, .int .i64 port)] hF (by kernel_rfl) fun a hF => ?_
       refine wl (eL 33 6 0 (v := .agg #[.int .i64 i1, .int .i64 i2, .int .i64 i3, .int .i64 i4, .int .i64 i5]) hF hM (by kernel_rfl) rfl rfl (by kernel_rfl) (by kernel_rfl) fun a w hF hM => ?_)
       refine sB 1 [(34, .int .i64 t)] hF (by kernel_rfl) fun a hF => ?_
       refine wl (eM 35 (v := .tuple #[.agg #[.slice none 0 0, .slice none 0 0, .int .i64 0, .slice none 0 0, .slice none 0 0], .int .i64 0, .int .i64 2]) hF hM (by kernel_rfl) (yld_call (f := 17) (args := #[.agg #[.slice A lsl.length ca, .slice A2 lsl_2.length cq_, .int .i64 now, .slice A3 lsl_3.length cs, .slice A4 lsl_4.length cm], .int .i64 port, .agg #[.int .i64 i1, .int .i64 i2, .int .i64 i3, .int .i64 i4, .int .i64 i5], .int .i64 t]) hF (by kernel_rfl) (fun _ => by kernel_rfl) (fun w hM => ps_err (ps_port hz1 (fun z => absurd z.2 hz4)) (by decide) (fun q => fiPass_no A lsl ca A2 lsl_2 cq_ now A3 lsl_3 cs A4 lsl_4 cm port i1 i2 i3 i4 i5 t w (hM.ok 9 _ rfl) hW_lsl (hM.ok 10 _ rfl) hW_lsl_2 (hM.ok 11 _ rfl) (hM.ok 12 _ rfl) hW_lsl_4 q))) fun a w hF hM => ?_)
       refine sB 4 [(30, .tuple #[.agg #[.slice none 0 0, .slice none 0 0, .int .i64 0, .slice none 0 0, .slice none 0 0], .int .i64 0, .int .i64 2]), (36, .agg #[.slice none 0 0, .slice none 0 0, .int .i64 0, .slice none 0 0, .slice none 0 0]), (37, .int .i64 0), (38, .int .i64 2)] hF (by kernel_rfl) fun a hF => ?_
       refine wl (eN 12 15 (t := 27) (fun b => .pointer (some ⟨b, 0, none⟩)) #[.slice none 0 0, .slice none 0 0, .int .i64 0, .slice none 0 0, .slice none 0 0] hF hM (by kernel_rfl) (fun _ => by kernel_rfl) fun bb7 a w hF hM => ?_)
       refine wl (sStore (i := 15) (off := 0) (cs' := #[.slice none 0 0, .slice none 0 0, .int .i64 0, .slice none 0 0, .slice none 0 0]) hF hM (by kernel_rfl) rfl rfl (by kernel_rfl) (by kernel_rfl) rfl (by kernel_rfl) fun w hM => ?_)
       refine sB 2 [(13, .int .i64 0), (14, .int .i64 2)] hF (by kernel_rfl) fun a hF => ?_
       refine wpList_nil ?_
       refine hK11 _ _ ?_
       refine wp_seq_k fun K24 hK24 => ?_
       refine wp_seq_k fun K25 hK25 => ?_
       have hfr := flB_yes hz1
       refine wp_region_lit ?_
       refine wl (eL 39 13 0 (v := .agg #[.slice A lsl.length ca, .slice A2 lsl_2.length cq_, .int .i64 now, .slice A3 lsl_3.length cs, .slice A4 lsl_4.length cm]) hF hM (by kernel_rfl) rfl rfl (by kernel_rfl) (by kernel_rfl) fun a w hF hM => ?_)
       refine wl (eM 40 (v := .bool true) hF hM (by kernel_rfl) (Yld.to (yld_call (f := 11) (args := #[.agg #[.slice A lsl.length ca, .slice A2 lsl_2.length cq_, .int .i64 now, .slice A3 lsl_3.length cs, .slice A4 lsl_4.length cm]]) hF (by kernel_rfl) (fun _ => by kernel_rfl) (fun w hM => rRight33_x A lsl ca A2 lsl_2 cq_ now A3 lsl_3 cs A4 lsl_4 cm w (hM.ok 9 _ rfl) hW_lsl (hM.ok 10 _ rfl) hW_lsl_2 (hM.ok 11 _ rfl) (hM.ok 12 _ rfl) hW_lsl_4 rfl rfl rfl rfl)) (congrArg Value.bool hfr)) fun a w hF hM => ?_)
       refine sB 1 [(41, .bool false)] hF (by kernel_rfl) fun a hF => ?_
       refine wpList_nil ?_
       refine hK25 _ _ ?_
       refine cF hF (by kernel_rfl) (by kernel_rfl) ?_
       refine wp_skip ?_
       refine hK24 _ _ ?_
       refine wp_seq_k fun K26 hK26 => ?_
       refine wp_region_lit ?_
       refine wl (eL 61 6 0 (v := .agg #[.int .i64 i1, .int .i64 i2, .int .i64 i3, .int .i64 i4, .int .i64 i5]) hF hM (by kernel_rfl) rfl rfl (by kernel_rfl) (by kernel_rfl) fun a w hF hM => ?_)
       refine wl (eM 62 (v := .bool false) hF hM (by kernel_rfl) (Yld.to (yld_call (f := 18) (args := #[.agg #[.int .i64 i1, .int .i64 i2, .int .i64 i3, .int .i64 i4, .int .i64 i5]]) hF (by kernel_rfl) (fun _ => by kernel_rfl) (fun w hM => rItem33_w i1 i2 i3 i4 i5 w)) (congrArg Value.bool hz2)) fun a w hF hM => ?_)
       refine sB 1 [(15, .bool false)] hF (by kernel_rfl) fun a hF => ?_
       refine wpList_nil ?_
       refine hK26 _ _ ?_
       refine wp_seq_k fun K27 hK27 => ?_
       refine wp_seq_k fun K28 hK28 => ?_
       refine wp_region_lit ?_
       refine sB 18 [(63, .bool false), (64, .bool false), (65, undef), (66, undef), (67, undef), (68, undef), (69, undef), (70, undef), (71, undef), (72, undef), (73, undef), (74, undef), (75, .bool false), (76, .bool false), (77, .bool false), (78, .bool true), (79, .bool true), (80, .int .i64 0)] hF (by kernel_rfl) fun a hF => ?_
       refine wl (eP 81 (v0 := .bool (!decide (0 = 0))) (v := .bool false) hF (by kernel_rfl) (fun _ => by kernel_rfl) (nT (by omega)) fun a hF => ?_)
       refine sB 2 [(82, .bool false), (83, .int .i64 460)] hF (by kernel_rfl) fun a hF => ?_
       refine wl (eP 84 (v0 := .bool (!decide (460 = 460))) (v := .bool false) hF (by kernel_rfl) (fun _ => by kernel_rfl) (nT (by omega)) fun a hF => ?_)
       refine sB 3 [(85, .bool false), (86, .bool false), (87, .bool false)] hF (by kernel_rfl) fun a hF => ?_
       refine wpList_nil ?_
       refine hK28 _ _ ?_
       refine cF hF (by kernel_rfl) (by kernel_rfl) ?_
       refine wp_skip ?_
       refine hK27 _ _ ?_
       refine wp_seq_k fun K29 hK29 => ?_
       refine wp_region_lit ?_
       refine sB 1 [(16, .int .i64 0)] hF (by kernel_rfl) fun a hF => ?_
       refine wpList_nil ?_
       refine hK29 _ _ ?_
       refine wp_seq_k fun K30 hK30 => ?_
       refine wp_seq_k fun K31 hK31 => ?_
       refine wp_region_lit ?_
       refine sB 1 [(88, .int .i64 port)] hF (by kernel_rfl) fun a hF => ?_
       refine wl (eP 89 (v0 := .bool (decide (port < 0))) (v := .bool false) hF (by kernel_rfl) (fun _ => by kernel_rfl) (bF (by omega)) fun a hF => ?_)
       refine sB 2 [(90, .bool false), (91, .int .i64 port)] hF (by kernel_rfl) fun a hF => ?_
       refine wl (eP 92 (v0 := .bool (decide (47 < port))) (v := .bool true) hF (by kernel_rfl) (fun _ => by kernel_rfl) (bT (by omega)) fun a hF => ?_)
       refine sB 1 [(93, .bool true)] hF (by kernel_rfl) fun a hF => ?_
       refine wpList_nil ?_
       refine hK31 _ _ ?_
       refine cT hF (by kernel_rfl) (by kernel_rfl) ?_
       refine wp_region_lit ?_
       refine sB 1 [(16, .int .i64 2)] hF (by kernel_rfl) fun a hF => ?_
       refine wpList_nil ?_
       refine hK30 _ _ ?_
       refine wp_seq_k fun K32 hK32 => ?_
       refine wp_seq_k fun K33 hK33 => ?_
       refine wp_region_lit ?_
       refine sB 1 [(104, .int .i64 2)] hF (by kernel_rfl) fun a hF => ?_
       refine wl (eP 105 (v0 := .bool (!decide (2 = 0))) (v := .bool true) hF (by kernel_rfl) (fun _ => by kernel_rfl) (nF (by omega)) fun a hF => ?_)
       refine wpList_nil ?_
       refine hK33 _ _ ?_
       refine cT hF (by kernel_rfl) (by kernel_rfl) ?_
       refine wp_seq_k fun K34 hK34 => ?_
       refine wp_region_lit ?_
       refine wl (eL 106 15 0 (v := .agg #[.slice none 0 0, .slice none 0 0, .int .i64 0, .slice none 0 0, .slice none 0 0]) hF hM (by kernel_rfl) rfl rfl (by kernel_rfl) (by kernel_rfl) fun a w hF hM => ?_)
       refine sB 1 [(107, .agg #[.slice none 0 0, .slice none 0 0, .int .i64 0, .slice none 0 0, .slice none 0 0])] hF (by kernel_rfl) fun a hF => ?_
       refine wl (eM 108 (v := .bool true) hF hM (by kernel_rfl) (yld_call (f := 15) (args := #[.agg #[.slice none 0 0, .slice none 0 0, .int .i64 0, .slice none 0 0, .slice none 0 0], .agg #[.slice none 0 0, .slice none 0 0, .int .i64 0, .slice none 0 0, .slice none 0 0]]) hF (by kernel_rfl) (fun _ => by kernel_rfl) (fun w hM => calls_bool (same_refl ([] : List (List Int)) ([] : List (List Int)) 0 ([] : List Int) ([] : List (List Int))) (same33_x none ([] : List (List Int)) 0 none ([] : List (List Int)) 0 0 none ([] : List Int) 0 none ([] : List (List Int)) 0 none ([] : List (List Int)) 0 none ([] : List (List Int)) 0 0 none ([] : List Int) 0 none ([] : List (List Int)) 0 w Ro.nil WR.nil Ro.nil WR.nil Ro.nil Ro.nil WR.nil Ro.nil WR.nil Ro.nil WR.nil Ro.nil Ro.nil WR.nil ⟨by first | omega | decide, by first | omega | decide, by first | omega | decide, by first | omega | decide⟩ rfl rfl rfl rfl rfl rfl rfl rfl))) fun a w hF hM => ?_)
       refine sB 2 [(109, .bool true), (110, .int .i64 0)] hF (by kernel_rfl) fun a hF => ?_
       refine wl (eP 111 (v0 := .bool (decide (0 = 0))) (v := .bool true) hF (by kernel_rfl) (fun _ => by kernel_rfl) (bT (by omega)) fun a hF => ?_)
       refine sB 4 [(112, .bool true), (113, .bool true), (114, .int .i64 2), (115, .int .i64 2)] hF (by kernel_rfl) fun a hF => ?_
       refine wl (eP 116 (v0 := .bool (decide (2 = 2))) (v := .bool true) hF (by kernel_rfl) (fun _ => by kernel_rfl) (bT (by omega)) fun a hF => ?_)
       refine sB 2 [(117, .bool true), (8, .bool true)] hF (by kernel_rfl) fun a hF => ?_
       refine wpList_nil ?_
       refine hK34 _ _ ?_
       refine wp_ret ?_
       refine hR0 _ _ ?_
       refine ret_of hF hM (.tmp rfl (.nil)) ?_
       exact ⟨rfl, hM.bel⟩
     ·skip
      refine wp_region_lit ?_
      refine wl (eL 31 13 0 (v := .agg #[.slice A lsl.length ca, .slice A2 lsl_2.length cq_, .int .i64 now, .slice A3 lsl_3.length cs, .slice A4 lsl_4.length cm]) hF hM (by kernel_rfl) rfl rfl (by kernel_rfl) (by kernel_rfl) fun a w hF hM => ?_)
      refine sB 1 [(32, .int .i64 port)] hF (by kernel_rfl) fun a hF => ?_
      refine wl (eL 33 6 0 (v := .agg #[.int .i64 i1, .int .i64 i2, .int .i64 i3, .int .i64 i4, .int .i64 i5]) hF hM (by kernel_rfl) rfl rfl (by kernel_rfl) (by kernel_rfl) fun a w hF hM => ?_)
      refine sB 1 [(34, .int .i64 t)] hF (by kernel_rfl) fun a hF => ?_
      refine wl (eM 35 (v := .tuple #[.agg #[.slice none 0 0, .slice none 0 0, .int .i64 0, .slice none 0 0, .slice none 0 0], .int .i64 0, .int .i64 2]) hF hM (by kernel_rfl) (yld_call (f := 17) (args := #[.agg #[.slice A lsl.length ca, .slice A2 lsl_2.length cq_, .int .i64 now, .slice A3 lsl_3.length cs, .slice A4 lsl_4.length cm], .int .i64 port, .agg #[.int .i64 i1, .int .i64 i2, .int .i64 i3, .int .i64 i4, .int .i64 i5], .int .i64 t]) hF (by kernel_rfl) (fun _ => by kernel_rfl) (fun w hM => ps_err (ps_port hz1 (fun z => absurd z.1 hz3)) (by decide) (fun q => fiPass_no A lsl ca A2 lsl_2 cq_ now A3 lsl_3 cs A4 lsl_4 cm port i1 i2 i3 i4 i5 t w (hM.ok 9 _ rfl) hW_lsl (hM.ok 10 _ rfl) hW_lsl_2 (hM.ok 11 _ rfl) (hM.ok 12 _ rfl) hW_lsl_4 q))) fun a w hF hM => ?_)
      refine sB 4 [(30, .tuple #[.agg #[.slice none 0 0, .slice none 0 0, .int .i64 0, .slice none 0 0, .slice none 0 0], .int .i64 0, .int .i64 2]), (36, .agg #[.slice none 0 0, .slice none 0 0, .int .i64 0, .slice none 0 0, .slice none 0 0]), (37, .int .i64 0), (38, .int .i64 2)] hF (by kernel_rfl) fun a hF => ?_
      refine wl (eN 12 16 (t := 27) (fun b => .pointer (some ⟨b, 0, none⟩)) #[.slice none 0 0, .slice none 0 0, .int .i64 0, .slice none 0 0, .slice none 0 0] hF hM (by kernel_rfl) (fun _ => by kernel_rfl) fun bb8 a w hF hM => ?_)
      refine wl (sStore (i := 16) (off := 0) (cs' := #[.slice none 0 0, .slice none 0 0, .int .i64 0, .slice none 0 0, .slice none 0 0]) hF hM (by kernel_rfl) rfl rfl (by kernel_rfl) (by kernel_rfl) rfl (by kernel_rfl) fun w hM => ?_)
      refine sB 2 [(13, .int .i64 0), (14, .int .i64 2)] hF (by kernel_rfl) fun a hF => ?_
      refine wpList_nil ?_
      refine hK11 _ _ ?_
      refine wp_seq_k fun K35 hK35 => ?_
      refine wp_seq_k fun K36 hK36 => ?_
      have hfr := flB_yes hz1
      refine wp_region_lit ?_
      refine wl (eL 39 13 0 (v := .agg #[.slice A lsl.length ca, .slice A2 lsl_2.length cq_, .int .i64 now, .slice A3 lsl_3.length cs, .slice A4 lsl_4.length cm]) hF hM (by kernel_rfl) rfl rfl (by kernel_rfl) (by kernel_rfl) fun a w hF hM => ?_)
      refine wl (eM 40 (v := .bool true) hF hM (by kernel_rfl) (Yld.to (yld_call (f := 11) (args := #[.agg #[.slice A lsl.length ca, .slice A2 lsl_2.length cq_, .int .i64 now, .slice A3 lsl_3.length cs, .slice A4 lsl_4.length cm]]) hF (by kernel_rfl) (fun _ => by kernel_rfl) (fun w hM => rRight33_x A lsl ca A2 lsl_2 cq_ now A3 lsl_3 cs A4 lsl_4 cm w (hM.ok 9 _ rfl) hW_lsl (hM.ok 10 _ rfl) hW_lsl_2 (hM.ok 11 _ rfl) (hM.ok 12 _ rfl) hW_lsl_4 rfl rfl rfl rfl)) (congrArg Value.bool hfr)) fun a w hF hM => ?_)
      refine sB 1 [(41, .bool false)] hF (by kernel_rfl) fun a hF => ?_
      refine wpList_nil ?_
      refine hK36 _ _ ?_
      refine cF hF (by kernel_rfl) (by kernel_rfl) ?_
      refine wp_skip ?_
      refine hK35 _ _ ?_
      refine wp_seq_k fun K37 hK37 => ?_
      refine wp_region_lit ?_
      refine wl (eL 61 6 0 (v := .agg #[.int .i64 i1, .int .i64 i2, .int .i64 i3, .int .i64 i4, .int .i64 i5]) hF hM (by kernel_rfl) rfl rfl (by kernel_rfl) (by kernel_rfl) fun a w hF hM => ?_)
      refine wl (eM 62 (v := .bool false) hF hM (by kernel_rfl) (Yld.to (yld_call (f := 18) (args := #[.agg #[.int .i64 i1, .int .i64 i2, .int .i64 i3, .int .i64 i4, .int .i64 i5]]) hF (by kernel_rfl) (fun _ => by kernel_rfl) (fun w hM => rItem33_w i1 i2 i3 i4 i5 w)) (congrArg Value.bool hz2)) fun a w hF hM => ?_)
      refine sB 1 [(15, .bool false)] hF (by kernel_rfl) fun a hF => ?_
      refine wpList_nil ?_
      refine hK37 _ _ ?_
      refine wp_seq_k fun K38 hK38 => ?_
      refine wp_seq_k fun K39 hK39 => ?_
      refine wp_region_lit ?_
      refine sB 18 [(63, .bool false), (64, .bool false), (65, undef), (66, undef), (67, undef), (68, undef), (69, undef), (70, undef), (71, undef), (72, undef), (73, undef), (74, undef), (75, .bool false), (76, .bool false), (77, .bool false), (78, .bool true), (79, .bool true), (80, .int .i64 0)] hF (by kernel_rfl) fun a hF => ?_
      refine wl (eP 81 (v0 := .bool (!decide (0 = 0))) (v := .bool false) hF (by kernel_rfl) (fun _ => by kernel_rfl) (nT (by omega)) fun a hF => ?_)
      refine sB 2 [(82, .bool false), (83, .int .i64 460)] hF (by kernel_rfl) fun a hF => ?_
      refine wl (eP 84 (v0 := .bool (!decide (460 = 460))) (v := .bool false) hF (by kernel_rfl) (fun _ => by kernel_rfl) (nT (by omega)) fun a hF => ?_)
      refine sB 3 [(85, .bool false), (86, .bool false), (87, .bool false)] hF (by kernel_rfl) fun a hF => ?_
      refine wpList_nil ?_
      refine hK39 _ _ ?_
      refine cF hF (by kernel_rfl) (by kernel_rfl) ?_
      refine wp_skip ?_
      refine hK38 _ _ ?_
      refine wp_seq_k fun K40 hK40 => ?_
      refine wp_region_lit ?_
      refine sB 1 [(16, .int .i64 0)] hF (by kernel_rfl) fun a hF => ?_
      refine wpList_nil ?_
      refine hK40 _ _ ?_
      refine wp_seq_k fun K41 hK41 => ?_
      refine wp_seq_k fun K42 hK42 => ?_
      refine wp_region_lit ?_
      refine sB 1 [(88, .int .i64 port)] hF (by kernel_rfl) fun a hF => ?_
      refine wl (eP 89 (v0 := .bool (decide (port < 0))) (v := .bool true) hF (by kernel_rfl) (fun _ => by kernel_rfl) (bT (by omega)) fun a hF => ?_)
      refine sB 4 [(90, .bool true), (91, undef), (92, undef), (93, .bool true)] hF (by kernel_rfl) fun a hF => ?_
      refine wpList_nil ?_
      refine hK42 _ _ ?_
      refine cT hF (by kernel_rfl) (by kernel_rfl) ?_
      refine wp_region_lit ?_
      refine sB 1 [(16, .int .i64 2)] hF (by kernel_rfl) fun a hF => ?_
      refine wpList_nil ?_
      refine hK41 _ _ ?_
      refine wp_seq_k fun K43 hK43 => ?_
      refine wp_seq_k fun K44 hK44 => ?_
      refine wp_region_lit ?_
      refine sB 1 [(104, .int .i64 2)] hF (by kernel_rfl) fun a hF => ?_
      refine wl (eP 105 (v0 := .bool (!decide (2 = 0))) (v := .bool true) hF (by kernel_rfl) (fun _ => by kernel_rfl) (nF (by omega)) fun a hF => ?_)
      refine wpList_nil ?_
      refine hK44 _ _ ?_
      refine cT hF (by kernel_rfl) (by kernel_rfl) ?_
      refine wp_seq_k fun K45 hK45 => ?_
      refine wp_region_lit ?_
      refine wl (eL 106 16 0 (v := .agg #[.slice none 0 0, .slice none 0 0, .int .i64 0, .slice none 0 0, .slice none 0 0]) hF hM (by kernel_rfl) rfl rfl (by kernel_rfl) (by kernel_rfl) fun a w hF hM => ?_)
      refine sB 1 [(107, .agg #[.slice none 0 0, .slice none 0 0, .int .i64 0, .slice none 0 0, .slice none 0 0])] hF (by kernel_rfl) fun a hF => ?_
      refine wl (eM 108 (v := .bool true) hF hM (by kernel_rfl) (yld_call (f := 15) (args := #[.agg #[.slice none 0 0, .slice none 0 0, .int .i64 0, .slice none 0 0, .slice none 0 0], .agg #[.slice none 0 0, .slice none 0 0, .int .i64 0, .slice none 0 0, .slice none 0 0]]) hF (by kernel_rfl) (fun _ => by kernel_rfl) (fun w hM => calls_bool (same_refl ([] : List (List Int)) ([] : List (List Int)) 0 ([] : List Int) ([] : List (List Int))) (same33_x none ([] : List (List Int)) 0 none ([] : List (List Int)) 0 0 none ([] : List Int) 0 none ([] : List (List Int)) 0 none ([] : List (List Int)) 0 none ([] : List (List Int)) 0 0 none ([] : List Int) 0 none ([] : List (List Int)) 0 w Ro.nil WR.nil Ro.nil WR.nil Ro.nil Ro.nil WR.nil Ro.nil WR.nil Ro.nil WR.nil Ro.nil Ro.nil WR.nil ⟨by first | omega | decide, by first | omega | decide, by first | omega | decide, by first | omega | decide⟩ rfl rfl rfl rfl rfl rfl rfl rfl))) fun a w hF hM => ?_)
      refine sB 2 [(109, .bool true), (110, .int .i64 0)] hF (by kernel_rfl) fun a hF => ?_
      refine wl (eP 111 (v0 := .bool (decide (0 = 0))) (v := .bool true) hF (by kernel_rfl) (fun _ => by kernel_rfl) (bT (by omega)) fun a hF => ?_)
      refine sB 4 [(112, .bool true), (113, .bool true), (114, .int .i64 2), (115, .int .i64 2)] hF (by kernel_rfl) fun a hF => ?_
      refine wl (eP 116 (v0 := .bool (decide (2 = 2))) (v := .bool true) hF (by kernel_rfl) (fun _ => by kernel_rfl) (bT (by omega)) fun a hF => ?_)
      refine sB 2 [(117, .bool true), (8, .bool true)] hF (by kernel_rfl) fun a hF => ?_
      refine wpList_nil ?_
      refine hK45 _ _ ?_
      refine wp_ret ?_
      refine hR0 _ _ ?_
      refine ret_of hF hM (.tmp rfl (.nil)) ?_
      exact ⟨rfl, hM.bel⟩
    ·skip
     refine wp_region_lit ?_
     refine wl (eL 24 13 0 (v := .agg #[.slice A lsl.length ca, .slice A2 lsl_2.length cq_, .int .i64 now, .slice A3 lsl_3.length cs, .slice A4 lsl_4.length cm]) hF hM (by kernel_rfl) rfl rfl (by kernel_rfl) (by kernel_rfl) fun a w hF hM => ?_)
     refine sB 1 [(25, .int .i64 port)] hF (by kernel_rfl) fun a hF => ?_
     refine wl (eL 26 6 0 (v := .agg #[.int .i64 i1, .int .i64 i2, .int .i64 i3, .int .i64 i4, .int .i64 i5]) hF hM (by kernel_rfl) rfl rfl (by kernel_rfl) (by kernel_rfl) fun a w hF hM => ?_)
     refine wl (eM 27 (v := .tuple #[.int .i64 (regI port i1 i3 lsl), .int .i64 0]) hF hM (by kernel_rfl) (yld_call (f := 16) (args := #[.agg #[.slice A lsl.length ca, .slice A2 lsl_2.length cq_, .int .i64 now, .slice A3 lsl_3.length cs, .slice A4 lsl_4.length cm], .int .i64 port, .agg #[.int .i64 i1, .int .i64 i2, .int .i64 i3, .int .i64 i4, .int .i64 i5]]) hF (by kernel_rfl) (fun _ => by kernel_rfl) (fun w hM => calls_val (fn_ok hz1 hz2) (fiFind_x A lsl ca A2 lsl_2 cq_ now A3 lsl_3 cs A4 lsl_4 cm port i1 i2 i3 i4 i5 w (hM.ok 9 _ rfl) hW_lsl (hM.ok 10 _ rfl) hW_lsl_2 (hM.ok 11 _ rfl) (hM.ok 12 _ rfl) hW_lsl_4 rfl rfl rfl rfl))) fun a w hF hM => ?_)
     refine sB 5 [(23, .tuple #[.int .i64 (regI port i1 i3 lsl), .int .i64 0]), (28, .int .i64 (regI port i1 i3 lsl)), (29, .int .i64 0), (10, .int .i64 (regI port i1 i3 lsl)), (11, .int .i64 0)] hF (by kernel_rfl) fun a hF => ?_
     refine wpList_nil ?_
     refine hK10 _ _ ?_
     refine wp_seq_k fun K46 hK46 => ?_
     by_cases hz5 : 0 ≤ port
     ·skip
      by_cases hz6 : port ≤ 47
      ·skip
       by_cases hz7 : now ≤ t
       ·skip
        by_cases hz8 : t ≤ 549755813888
        ·skip
         refine wp_region_lit ?_
         refine wl (eL 31 13 0 (v := .agg #[.slice A lsl.length ca, .slice A2 lsl_2.length cq_, .int .i64 now, .slice A3 lsl_3.length cs, .slice A4 lsl_4.length cm]) hF hM (by kernel_rfl) rfl rfl (by kernel_rfl) (by kernel_rfl) fun a w hF hM => ?_)
         refine sB 1 [(32, .int .i64 port)] hF (by kernel_rfl) fun a hF => ?_
         refine wl (eL 33 6 0 (v := .agg #[.int .i64 i1, .int .i64 i2, .int .i64 i3, .int .i64 i4, .int .i64 i5]) hF hM (by kernel_rfl) rfl rfl (by kernel_rfl) (by kernel_rfl) fun a w hF hM => ?_)
         refine sB 1 [(34, .int .i64 t)] hF (by kernel_rfl) fun a hF => ?_
         obtain ⟨pl, pm, pv, epl⟩ : ∃ x y z, psR lsl lsl_2 lsl_3 lsl_4 port i1 i3 i4 t = (x, y, z) := ⟨_, _, _, rfl⟩
         have lpl := psR_len epl
         have hpm := psR_wr epl hW_lsl_4
         have fpl := psR_ok (i2 := i2) (i5 := i5) hz1 hz2 ⟨hz7, hz8⟩ epl
         refine wl (sRo2 17 18 (f := 17) (args := #[.agg #[.slice A lsl.length ca, .slice A2 lsl_2.length cq_, .int .i64 now, .slice A3 lsl_3.length cs, .slice A4 lsl_4.length cm], .int .i64 port, .agg #[.int .i64 i1, .int .i64 i2, .int .i64 i3, .int .i64 i4, .int .i64 i5], .int .i64 t]) (mk := (fun x y => .tuple #[.agg #[.slice A lsl.length ca, .slice A2 lsl_2.length cq_, .int .i64 t, x, y], .int .i64 pv, .int .i64 0])) (A3 := A3) (A4 := A4) (n3 := pl.length) (n4 := pm.length) (xs := (pl.map (Value.int .i64))) (ys := (flatR pm)) hF hM (by kernel_rfl) rfl (by decide) (by kernel_rfl) (fun _ => by kernel_rfl) (fiPass_ok A lsl ca A2 lsl_2 cq_ now A3 lsl_3 cs A4 lsl_4 cm port i1 i2 i3 i4 i5 t w (hM.ok 9 _ rfl) hW_lsl (hM.ok 10 _ rfl) hW_lsl_2 (hM.ok 11 _ rfl) (hM.ok 12 _ rfl) hW_lsl_4 hz1 ⟨hz5, hz6⟩ hz2 ⟨hz7, hz8⟩ epl lpl.1 lpl.2) (freeOr hM (k := 11) rfl (by simp only [List.length_map]; omega)) (freeOr hM (k := 12) rfl (by rw [flatR_length hW_lsl_4, flatR_length hpm]; omega)) fun AA9 cc9 AA10 cc10 a w hF hM => ?_)
         refine sB 4 [(30, .tuple #[.agg #[.slice A lsl.length ca, .slice A2 lsl_2.length cq_, .int .i64 t, .slice AA9 pl.length cc9, .slice AA10 pm.length cc10], .int .i64 pv, .int .i64 0]), (36, .agg #[.slice A lsl.length ca, .slice A2 lsl_2.length cq_, .int .i64 t, .slice AA9 pl.length cc9, .slice AA10 pm.length cc10]), (37, .int .i64 pv), (38, .int .i64 0)] hF (by kernel_rfl) fun a hF => ?_
         refine wl (eN 12 19 (t := 27) (fun b => .pointer (some ⟨b, 0, none⟩)) #[.slice none 0 0, .slice none 0 0, .int .i64 0, .slice none 0 0, .slice none 0 0] hF hM (by kernel_rfl) (fun _ => by kernel_rfl) fun bb11 a w hF hM => ?_)
         refine wl (sStore (i := 19) (off := 0) (cs' := #[.slice A lsl.length ca, .slice A2 lsl_2.length cq_, .int .i64 t, .slice AA9 pl.length cc9, .slice AA10 pm.length cc10]) hF hM (by kernel_rfl) rfl rfl (by kernel_rfl) (by kernel_rfl) rfl (by kernel_rfl) fun w hM => ?_)
         refine sB 2 [(13, .int .i64 pv), (14, .int .i64 0)] hF (by kernel_rfl) fun a hF => ?_
         refine wpList_nil ?_
         refine hK46 _ _ ?_
         refine wp_seq_k fun K47 hK47 => ?_
         refine wp_seq_k fun K48 hK48 => ?_
         have hfr := flB_yes hz1
         refine wp_region_lit ?_
         refine wl (eL 39 13 0 (v := .agg #[.slice A lsl.length ca, .slice A2 lsl_2.length cq_, .int .i64 now, .slice A3 lsl_3.length cs, .slice A4 lsl_4.length cm]) hF hM (by kernel_rfl) rfl rfl (by kernel_rfl) (by kernel_rfl) fun a w hF hM => ?_)
         refine wl (eM 40 (v := .bool true) hF hM (by kernel_rfl) (Yld.to (yld_call (f := 11) (args := #[.agg #[.slice A lsl.length ca, .slice A2 lsl_2.length cq_, .int .i64 now, .slice A3 lsl_3.length cs, .slice A4 lsl_4.length cm]]) hF (by kernel_rfl) (fun _ => by kernel_rfl) (fun w hM => rRight33_x A lsl ca A2 lsl_2 cq_ now A3 lsl_3 cs A4 lsl_4 cm w (hM.ok 9 _ rfl) hW_lsl (hM.ok 10 _ rfl) hW_lsl_2 (hM.ok 11 _ rfl) (hM.ok 12 _ rfl) hW_lsl_4 rfl rfl rfl rfl)) (congrArg Value.bool hfr)) fun a w hF hM => ?_)
         refine sB 1 [(41, .bool false)] hF (by kernel_rfl) fun a hF => ?_
         refine wpList_nil ?_
         refine hK48 _ _ ?_
         refine cF hF (by kernel_rfl) (by kernel_rfl) ?_
         refine wp_skip ?_
         refine hK47 _ _ ?_
         refine wp_seq_k fun K49 hK49 => ?_
         refine wp_region_lit ?_
         refine wl (eL 61 6 0 (v := .agg #[.int .i64 i1, .int .i64 i2, .int .i64 i3, .int .i64 i4, .int .i64 i5]) hF hM (by kernel_rfl) rfl rfl (by kernel_rfl) (by kernel_rfl) fun a w hF hM => ?_)
         refine wl (eM 62 (v := .bool true) hF hM (by kernel_rfl) (Yld.to (yld_call (f := 18) (args := #[.agg #[.int .i64 i1, .int .i64 i2, .int .i64 i3, .int .i64 i4, .int .i64 i5]]) hF (by kernel_rfl) (fun _ => by kernel_rfl) (fun w hM => rItem33_w i1 i2 i3 i4 i5 w)) (congrArg Value.bool hz2)) fun a w hF hM => ?_)
         refine sB 1 [(15, .bool true)] hF (by kernel_rfl) fun a hF => ?_
         refine wpList_nil ?_
         refine hK49 _ _ ?_
         refine wp_seq_k fun K50 hK50 => ?_
         refine wp_seq_k fun K51 hK51 => ?_
         refine wp_region_lit ?_
         refine sB 3 [(63, .bool true), (64, .bool true), (65, .int .i64 (regI port i1 i3 lsl))] hF (by kernel_rfl) fun a hF => ?_
         refine wl (eL 66 13 0 (v := .agg #[.slice A lsl.length ca, .slice A2 lsl_2.length cq_, .int .i64 now, .slice A3 lsl_3.length cs, .slice A4 lsl_4.length cm]) hF hM (by kernel_rfl) rfl rfl (by kernel_rfl) (by kernel_rfl) fun a w hF hM => ?_)
         refine sB 1 [(67, .int .i64 port)] hF (by kernel_rfl) fun a hF => ?_
         refine wl (eL 68 6 0 (v := .agg #[.int .i64 i1, .int .i64 i2, .int .i64 i3, .int .i64 i4, .int .i64 i5]) hF hM (by kernel_rfl) rfl rfl (by kernel_rfl) (by kernel_rfl) fun a w hF hM => ?_)
         refine wl (eM 69 (v := .int .i64 (regI port i1 i3 lsl)) hF hM (by kernel_rfl) (yld_call (f := 19) (args := #[.agg #[.slice A lsl.length ca, .slice A2 lsl_2.length cq_, .int .i64 now, .slice A3 lsl_3.length cs, .slice A4 lsl_4.length cm], .int .i64 port, .agg #[.int .i64 i1, .int .i64 i2, .int .i64 i3, .int .i64 i4, .int .i64 i5]]) hF (by kernel_rfl) (fun _ => by kernel_rfl) (fun w hM => rFind33_w A lsl ca A2 lsl_2 cq_ now A3 lsl_3 cs A4 lsl_4 cm port i1 i2 i3 i4 i5 w (hM.ok 9 _ rfl) hW_lsl (hM.ok 10 _ rfl) hW_lsl_2 (hM.ok 11 _ rfl) (hM.ok 12 _ rfl) hW_lsl_4 (fl_len (fl_p hz1)).1)) fun a w hF hM => ?_)
         refine wl (eP 70 (v0 := .bool (!decide (regI port i1 i3 lsl = regI port i1 i3 lsl))) (v := .bool false) hF (by kernel_rfl) (fun _ => by kernel_rfl) (nT (by omega)) fun a hF => ?_)
         refine sB 2 [(71, .bool false), (72, .int .i64 0)] hF (by kernel_rfl) fun a hF => ?_
         refine wl (eP 73 (v0 := .bool (!decide (0 = 0))) (v := .bool false) hF (by kernel_rfl) (fun _ => by kernel_rfl) (nT (by omega)) fun a hF => ?_)
         refine sB 14 [(74, .bool false), (75, .bool false), (76, .bool false), (77, .bool true), (78, .bool false), (79, .bool false), (80, undef), (81, undef), (82, undef), (83, undef), (84, undef), (85, undef), (86, .bool false), (87, .bool false)] hF (by kernel_rfl) fun a hF => ?_
         refine wpList_nil ?_
         refine hK51 _ _ ?_
         refine cF hF (by kernel_rfl) (by kernel_rfl) ?_
         refine wp_skip ?_
         refine hK50 _ _ ?_
         refine wp_seq_k fun K52 hK52 => ?_
         refine wp_region_lit ?_
         refine sB 1 [(16, .int .i64 0)] hF (by kernel_rfl) fun a hF => ?_
         refine wpList_nil ?_
         refine hK52 _ _ ?_
         refine wp_seq_k fun K53 hK53 => ?_
         refine wp_seq_k fun K54 hK54 => ?_
         refine wp_region_lit ?_
         refine sB 1 [(88, .int .i64 port)] hF (by kernel_rfl) fun a hF => ?_
         refine wl (eP 89 (v0 := .bool (decide (port < 0))) (v := .bool false) hF (by kernel_rfl) (fun _ => by kernel_rfl) (bF (by omega)) fun a hF => ?_)
         refine sB 2 [(90, .bool false), (91, .int .i64 port)] hF (by kernel_rfl) fun a hF => ?_
         refine wl (eP 92 (v0 := .bool (decide (47 < port))) (v := .bool false) hF (by kernel_rfl) (fun _ => by kernel_rfl) (bF (by omega)) fun a hF => ?_)
         refine sB 1 [(93, .bool false)] hF (by kernel_rfl) fun a hF => ?_
         refine wpList_nil ?_
         refine hK54 _ _ ?_
         refine cF hF (by kernel_rfl) (by kernel_rfl) ?_
         refine wp_seq_k fun K55 hK55 => ?_
         refine wp_region_lit ?_
         refine sB 2 [(94, .bool true), (95, .bool false)] hF (by kernel_rfl) fun a hF => ?_
         refine wpList_nil ?_
         refine hK55 _ _ ?_
         refine cF hF (by kernel_rfl) (by kernel_rfl) ?_
         refine wp_seq_k fun K56 hK56 => ?_
         refine wp_region_lit ?_
         refine sB 2 [(96, .int .i64 t), (97, .pointer (some ⟨bb5, 2, none⟩))] hF (by kernel_rfl) fun a hF => ?_
         refine wl (eL 98 13 2 (v := .int .i64 now) hF hM (by kernel_rfl) rfl rfl (by kernel_rfl) (by kernel_rfl) fun a w hF hM => ?_)
         refine wl (eP 99 (v0 := .bool (decide (t < now))) (v := .bool false) hF (by kernel_rfl) (fun _ => by kernel_rfl) (bF (by omega)) fun a hF => ?_)
         refine sB 2 [(100, .bool false), (101, .int .i64 t)] hF (by kernel_rfl) fun a hF => ?_
         refine wl (eP 102 (v0 := .bool (decide (549755813888 < t))) (v := .bool false) hF (by kernel_rfl) (fun _ => by kernel_rfl) (bF (by omega)) fun a hF => ?_)
         refine sB 1 [(103, .bool false)] hF (by kernel_rfl) fun a hF => ?_
         refine wpList_nil ?_
         refine hK56 _ _ ?_
         refine cF hF (by kernel_rfl) (by kernel_rfl) ?_
         refine wp_skip ?_
         refine hK53 _ _ ?_
         refine wp_seq_k fun K57 hK57 => ?_
         refine wp_seq_k fun K58 hK58 => ?_
         refine wp_region_lit ?_
         refine sB 1 [(104, .int .i64 0)] hF (by kernel_rfl) fun a hF => ?_
         refine wl (eP 105 (v0 := .bool (!decide (0 = 0))) (v := .bool false) hF (by kernel_rfl) (fun _ => by kernel_rfl) (nT (by omega)) fun a hF => ?_)
         refine wpList_nil ?_
         refine hK58 _ _ ?_
         refine cF hF (by kernel_rfl) (by kernel_rfl) ?_
         refine wp_skip ?_
         refine hK57 _ _ ?_
         refine wp_seq_k fun K59 hK59 => ?_
         refine wp_region_lit ?_
         refine wl (eL 119 13 0 (v := .agg #[.slice A lsl.length ca, .slice A2 lsl_2.length cq_, .int .i64 now, .slice A3 lsl_3.length cs, .slice A4 lsl_4.length cm]) hF hM (by kernel_rfl) rfl rfl (by kernel_rfl) (by kernel_rfl) fun a w hF hM => ?_)
         refine sB 1 [(120, .int .i64 port)] hF (by kernel_rfl) fun a hF => ?_
         refine wl (eL 121 6 0 (v := .agg #[.int .i64 i1, .int .i64 i2, .int .i64 i3, .int .i64 i4, .int .i64 i5]) hF hM (by kernel_rfl) rfl rfl (by kernel_rfl) (by kernel_rfl) fun a w hF hM => ?_)
         refine sB 1 [(122, .int .i64 t)] hF (by kernel_rfl) fun a hF => ?_
         refine wl (sRo2 20 21 (f := 20) (args := #[.agg #[.slice A lsl.length ca, .slice A2 lsl_2.length cq_, .int .i64 now, .slice A3 lsl_3.length cs, .slice A4 lsl_4.length cm], .int .i64 port, .agg #[.int .i64 i1, .int .i64 i2, .int .i64 i3, .int .i64 i4, .int .i64 i5], .int .i64 t]) (mk := (fun x y => .tuple #[.agg #[.slice A lsl.length ca, .slice A2 lsl_2.length cq_, .int .i64 t, x, y], .int .i64 pv])) (A3 := A3) (A4 := A4) (n3 := pl.length) (n4 := pm.length) (xs := (pl.map (Value.int .i64))) (ys := (flatR pm)) hF hM (by kernel_rfl) rfl (by decide) (by kernel_rfl) (fun _ => by kernel_rfl) (rPass33_w A lsl ca A2 lsl_2 cq_ now A3 lsl_3 cs A4 lsl_4 cm port i1 i2 i3 i4 i5 t w (hM.ok 9 _ rfl) hW_lsl (hM.ok 10 _ rfl) hW_lsl_2 (hM.ok 11 _ rfl) (hM.ok 12 _ rfl) hW_lsl_4 hz1 ⟨hz5, hz6⟩ hz2 ⟨hz7, hz8⟩ (fun h => by have := hn3 h; rw [e_lsl_3, List.length_take]; omega) (fun h => by have := hn4 h; rw [e_lsl_4, List.length_take]; omega) epl lpl.1 lpl.2) (freeOr hM (k := 11) rfl (by simp only [List.length_map]; omega)) (freeOr hM (k := 12) rfl (by rw [flatR_length hW_lsl_4, flatR_length hpm]; omega)) fun AA12 cc12 AA13 cc13 a w hF hM => ?_)
         refine sB 3 [(118, .tuple #[.agg #[.slice A lsl.length ca, .slice A2 lsl_2.length cq_, .int .i64 t, .slice AA12 pl.length cc12, .slice AA13 pm.length cc13], .int .i64 pv]), (124, .agg #[.slice A lsl.length ca, .slice A2 lsl_2.length cq_, .int .i64 t, .slice AA12 pl.length cc12, .slice AA13 pm.length cc13]), (125, .int .i64 pv)] hF (by kernel_rfl) fun a hF => ?_
         refine wl (eN 17 22 (t := 27) (fun b => .pointer (some ⟨b, 0, none⟩)) #[.slice none 0 0, .slice none 0 0, .int .i64 0, .slice none 0 0, .slice none 0 0] hF hM (by kernel_rfl) (fun _ => by kernel_rfl) fun bb14 a w hF hM => ?_)
         refine wl (sStore (i := 22) (off := 0) (cs' := #[.slice A lsl.length ca, .slice A2 lsl_2.length cq_, .int .i64 t, .slice AA12 pl.length cc12, .slice AA13 pm.length cc13]) hF hM (by kernel_rfl) rfl rfl (by kernel_rfl) (by kernel_rfl) rfl (by kernel_rfl) fun w hM => ?_)
         refine sB 1 [(18, .int .i64 pv)] hF (by kernel_rfl) fun a hF => ?_
         refine wpList_nil ?_
         refine hK59 _ _ ?_
         refine wp_seq_k fun K60 hK60 => ?_
         refine wp_region_lit ?_
         refine wl (eL 126 19 0 (v := .agg #[.slice A lsl.length ca, .slice A2 lsl_2.length cq_, .int .i64 t, .slice AA9 pl.length cc9, .slice AA10 pm.length cc10]) hF hM (by kernel_rfl) rfl rfl (by kernel_rfl) (by kernel_rfl) fun a w hF hM => ?_)
         refine wl (eL 127 22 0 (v := .agg #[.slice A lsl.length ca, .slice A2 lsl_2.length cq_, .int .i64 t, .slice AA12 pl.length cc12, .slice AA13 pm.length cc13]) hF hM (by kernel_rfl) rfl rfl (by kernel_rfl) (by kernel_rfl) fun a w hF hM => ?_)
         refine wl (eM 128 (v := .bool true) hF hM (by kernel_rfl) (yld_call (f := 15) (args := #[.agg #[.slice A lsl.length ca, .slice A2 lsl_2.length cq_, .int .i64 t, .slice AA9 pl.length cc9, .slice AA10 pm.length cc10], .agg #[.slice A lsl.length ca, .slice A2 lsl_2.length cq_, .int .i64 t, .slice AA12 pl.length cc12, .slice AA13 pm.length cc13]]) hF (by kernel_rfl) (fun _ => by kernel_rfl) (fun w hM => calls_bool (same_refl lsl lsl_2 t pl pm) (same33_x A lsl ca A2 lsl_2 cq_ t AA9 pl cc9 AA10 pm cc10 A lsl ca A2 lsl_2 cq_ t AA12 pl cc12 AA13 pm cc13 w (hM.ok 9 _ rfl) hW_lsl (hM.ok 10 _ rfl) hW_lsl_2 (hM.ok 17 _ rfl) (hM.ok 18 _ rfl) hpm (hM.ok 9 _ rfl) hW_lsl (hM.ok 10 _ rfl) hW_lsl_2 (hM.ok 20 _ rfl) (hM.ok 21 _ rfl) hpm ⟨by first | omega | decide, by first | omega | decide, by first | omega | decide, by first | omega | decide⟩ rfl rfl rfl rfl rfl rfl rfl rfl))) fun a w hF hM => ?_)
         refine sB 3 [(129, .bool true), (130, .int .i64 pv), (131, .int .i64 pv)] hF (by kernel_rfl) fun a hF => ?_
         refine wl (eP 132 (v0 := .bool (decide (pv = pv))) (v := .bool true) hF (by kernel_rfl) (fun _ => by kernel_rfl) (bT (by omega)) fun a hF => ?_)
         refine sB 3 [(133, .bool true), (134, .bool true), (135, .int .i64 0)] hF (by kernel_rfl) fun a hF => ?_
         refine wl (eP 136 (v0 := .bool (decide (0 = 0))) (v := .bool true) hF (by kernel_rfl) (fun _ => by kernel_rfl) (bT (by omega)) fun a hF => ?_)
         refine sB 2 [(137, .bool true), (138, .bool true)] hF (by kernel_rfl) fun a hF => ?_
         refine wl (eL 139 19 0 (v := .agg #[.slice A lsl.length ca, .slice A2 lsl_2.length cq_, .int .i64 t, .slice AA9 pl.length cc9, .slice AA10 pm.length cc10]) hF hM (by kernel_rfl) rfl rfl (by kernel_rfl) (by kernel_rfl) fun a w hF hM => ?_)
         refine wl (eM 140 (v := .int .i64 (flE lsl lsl_2 t pl pm)) hF hM (by kernel_rfl) (yld_call (f := 12) (args := #[.agg #[.slice A lsl.length ca, .slice A2 lsl_2.length cq_, .int .i64 t, .slice AA9 pl.length cc9, .slice AA10 pm.length cc10]]) hF (by kernel_rfl) (fun _ => by kernel_rfl) (fun w hM => fiCheck_x A lsl ca A2 lsl_2 cq_ t AA9 pl cc9 AA10 pm cc10 w (hM.ok 9 _ rfl) hW_lsl (hM.ok 10 _ rfl) hW_lsl_2 (hM.ok 17 _ rfl) (hM.ok 18 _ rfl) hpm rfl rfl rfl rfl)) fun a w hF hM => ?_)
         refine wl (eP 141 (v0 := .bool (decide (flE lsl lsl_2 t pl pm = 0))) (v := .bool true) hF (by kernel_rfl) (fun _ => by kernel_rfl) (bT fpl) fun a hF => ?_)
         refine sB 2 [(142, .bool true), (8, .bool true)] hF (by kernel_rfl) fun a hF => ?_
         refine wpList_nil ?_
         refine hK60 _ _ ?_
         refine wp_ret ?_
         refine hR0 _ _ ?_
         refine ret_of hF hM (.tmp rfl (.nil)) ?_
         exact ⟨rfl, hM.bel⟩
        ·skip
         refine wp_region_lit ?_
         refine wl (eL 31 13 0 (v := .agg #[.slice A lsl.length ca, .slice A2 lsl_2.length cq_, .int .i64 now, .slice A3 lsl_3.length cs, .slice A4 lsl_4.length cm]) hF hM (by kernel_rfl) rfl rfl (by kernel_rfl) (by kernel_rfl) fun a w hF hM => ?_)
         refine sB 1 [(32, .int .i64 port)] hF (by kernel_rfl) fun a hF => ?_
         refine wl (eL 33 6 0 (v := .agg #[.int .i64 i1, .int .i64 i2, .int .i64 i3, .int .i64 i4, .int .i64 i5]) hF hM (by kernel_rfl) rfl rfl (by kernel_rfl) (by kernel_rfl) fun a w hF hM => ?_)
         refine sB 1 [(34, .int .i64 t)] hF (by kernel_rfl) fun a hF => ?_
         refine wl (eM 35 (v := .tuple #[.agg #[.slice none 0 0, .slice none 0 0, .int .i64 0, .slice none 0 0, .slice none 0 0], .int .i64 0, .int .i64 2]) hF hM (by kernel_rfl) (yld_call (f := 17) (args := #[.agg #[.slice A lsl.length ca, .slice A2 lsl_2.length cq_, .int .i64 now, .slice A3 lsl_3.length cs, .slice A4 lsl_4.length cm], .int .i64 port, .agg #[.int .i64 i1, .int .i64 i2, .int .i64 i3, .int .i64 i4, .int .i64 i5], .int .i64 t]) hF (by kernel_rfl) (fun _ => by kernel_rfl) (fun w hM => ps_err (ps_time hz1 ⟨hz5, hz6⟩ hz2 (fun z => absurd z.2 hz8)) (by decide) (fun q => fiPass_no A lsl ca A2 lsl_2 cq_ now A3 lsl_3 cs A4 lsl_4 cm port i1 i2 i3 i4 i5 t w (hM.ok 9 _ rfl) hW_lsl (hM.ok 10 _ rfl) hW_lsl_2 (hM.ok 11 _ rfl) (hM.ok 12 _ rfl) hW_lsl_4 q))) fun a w hF hM => ?_)
         refine sB 4 [(30, .tuple #[.agg #[.slice none 0 0, .slice none 0 0, .int .i64 0, .slice none 0 0, .slice none 0 0], .int .i64 0, .int .i64 2]), (36, .agg #[.slice none 0 0, .slice none 0 0, .int .i64 0, .slice none 0 0, .slice none 0 0]), (37, .int .i64 0), (38, .int .i64 2)] hF (by kernel_rfl) fun a hF => ?_
         refine wl (eN 12 23 (t := 27) (fun b => .pointer (some ⟨b, 0, none⟩)) #[.slice none 0 0, .slice none 0 0, .int .i64 0, .slice none 0 0, .slice none 0 0] hF hM (by kernel_rfl) (fun _ => by kernel_rfl) fun bb15 a w hF hM => ?_)
         refine wl (sStore (i := 23) (off := 0) (cs' := #[.slice none 0 0, .slice none 0 0, .int .i64 0, .slice none 0 0, .slice none 0 0]) hF hM (by kernel_rfl) rfl rfl (by kernel_rfl) (by kernel_rfl) rfl (by kernel_rfl) fun w hM => ?_)
         refine sB 2 [(13, .int .i64 0), (14, .int .i64 2)] hF (by kernel_rfl) fun a hF => ?_
         refine wpList_nil ?_
         refine hK46 _ _ ?_
         refine wp_seq_k fun K61 hK61 => ?_
         refine wp_seq_k fun K62 hK62 => ?_
         have hfr := flB_yes hz1
         refine wp_region_lit ?_
         refine wl (eL 39 13 0 (v := .agg #[.slice A lsl.length ca, .slice A2 lsl_2.length cq_, .int .i64 now, .slice A3 lsl_3.length cs, .slice A4 lsl_4.length cm]) hF hM (by kernel_rfl) rfl rfl (by kernel_rfl) (by kernel_rfl) fun a w hF hM => ?_)
         refine wl (eM 40 (v := .bool true) hF hM (by kernel_rfl) (Yld.to (yld_call (f := 11) (args := #[.agg #[.slice A lsl.length ca, .slice A2 lsl_2.length cq_, .int .i64 now, .slice A3 lsl_3.length cs, .slice A4 lsl_4.length cm]]) hF (by kernel_rfl) (fun _ => by kernel_rfl) (fun w hM => rRight33_x A lsl ca A2 lsl_2 cq_ now A3 lsl_3 cs A4 lsl_4 cm w (hM.ok 9 _ rfl) hW_lsl (hM.ok 10 _ rfl) hW_lsl_2 (hM.ok 11 _ rfl) (hM.ok 12 _ rfl) hW_lsl_4 rfl rfl rfl rfl)) (congrArg Value.bool hfr)) fun a w hF hM => ?_)
         refine sB 1 [(41, .bool false)] hF (by kernel_rfl) fun a hF => ?_
         refine wpList_nil ?_
         refine hK62 _ _ ?_
         refine cF hF (by kernel_rfl) (by kernel_rfl) ?_
         refine wp_skip ?_
         refine hK61 _ _ ?_
         refine wp_seq_k fun K63 hK63 => ?_
         refine wp_region_lit ?_
         refine wl (eL 61 6 0 (v := .agg #[.int .i64 i1, .int .i64 i2, .int .i64 i3, .int .i64 i4, .int .i64 i5]) hF hM (by kernel_rfl) rfl rfl (by kernel_rfl) (by kernel_rfl) fun a w hF hM => ?_)
         refine wl (eM 62 (v := .bool true) hF hM (by kernel_rfl) (Yld.to (yld_call (f := 18) (args := #[.agg #[.int .i64 i1, .int .i64 i2, .int .i64 i3, .int .i64 i4, .int .i64 i5]]) hF (by kernel_rfl) (fun _ => by kernel_rfl) (fun w hM => rItem33_w i1 i2 i3 i4 i5 w)) (congrArg Value.bool hz2)) fun a w hF hM => ?_)
         refine sB 1 [(15, .bool true)] hF (by kernel_rfl) fun a hF => ?_
         refine wpList_nil ?_
         refine hK63 _ _ ?_
         refine wp_seq_k fun K64 hK64 => ?_
         refine wp_seq_k fun K65 hK65 => ?_
         refine wp_region_lit ?_
         refine sB 3 [(63, .bool true), (64, .bool true), (65, .int .i64 (regI port i1 i3 lsl))] hF (by kernel_rfl) fun a hF => ?_
         refine wl (eL 66 13 0 (v := .agg #[.slice A lsl.length ca, .slice A2 lsl_2.length cq_, .int .i64 now, .slice A3 lsl_3.length cs, .slice A4 lsl_4.length cm]) hF hM (by kernel_rfl) rfl rfl (by kernel_rfl) (by kernel_rfl) fun a w hF hM => ?_)
         refine sB 1 [(67, .int .i64 port)] hF (by kernel_rfl) fun a hF => ?_
         refine wl (eL 68 6 0 (v := .agg #[.int .i64 i1, .int .i64 i2, .int .i64 i3, .int .i64 i4, .int .i64 i5]) hF hM (by kernel_rfl) rfl rfl (by kernel_rfl) (by kernel_rfl) fun a w hF hM => ?_)
         refine wl (eM 69 (v := .int .i64 (regI port i1 i3 lsl)) hF hM (by kernel_rfl) (yld_call (f := 19) (args := #[.agg #[.slice A lsl.length ca, .slice A2 lsl_2.length cq_, .int .i64 now, .slice A3 lsl_3.length cs, .slice A4 lsl_4.length cm], .int .i64 port, .agg #[.int .i64 i1, .int .i64 i2, .int .i64 i3, .int .i64 i4, .int .i64 i5]]) hF (by kernel_rfl) (fun _ => by kernel_rfl) (fun w hM => rFind33_w A lsl ca A2 lsl_2 cq_ now A3 lsl_3 cs A4 lsl_4 cm port i1 i2 i3 i4 i5 w (hM.ok 9 _ rfl) hW_lsl (hM.ok 10 _ rfl) hW_lsl_2 (hM.ok 11 _ rfl) (hM.ok 12 _ rfl) hW_lsl_4 (fl_len (fl_p hz1)).1)) fun a w hF hM => ?_)
         refine wl (eP 70 (v0 := .bool (!decide (regI port i1 i3 lsl = regI port i1 i3 lsl))) (v := .bool false) hF (by kernel_rfl) (fun _ => by kernel_rfl) (nT (by omega)) fun a hF => ?_)
         refine sB 2 [(71, .bool false), (72, .int .i64 0)] hF (by kernel_rfl) fun a hF => ?_
         refine wl (eP 73 (v0 := .bool (!decide (0 = 0))) (v := .bool false) hF (by kernel_rfl) (fun _ => by kernel_rfl) (nT (by omega)) fun a hF => ?_)
         refine sB 14 [(74, .bool false), (75, .bool false), (76, .bool false), (77, .bool true), (78, .bool false), (79, .bool false), (80, undef), (81, undef), (82, undef), (83, undef), (84, undef), (85, undef), (86, .bool false), (87, .bool false)] hF (by kernel_rfl) fun a hF => ?_
         refine wpList_nil ?_
         refine hK65 _ _ ?_
         refine cF hF (by kernel_rfl) (by kernel_rfl) ?_
         refine wp_skip ?_
         refine hK64 _ _ ?_
         refine wp_seq_k fun K66 hK66 => ?_
         refine wp_region_lit ?_
         refine sB 1 [(16, .int .i64 0)] hF (by kernel_rfl) fun a hF => ?_
         refine wpList_nil ?_
         refine hK66 _ _ ?_
         refine wp_seq_k fun K67 hK67 => ?_
         refine wp_seq_k fun K68 hK68 => ?_
         refine wp_region_lit ?_
         refine sB 1 [(88, .int .i64 port)] hF (by kernel_rfl) fun a hF => ?_
         refine wl (eP 89 (v0 := .bool (decide (port < 0))) (v := .bool false) hF (by kernel_rfl) (fun _ => by kernel_rfl) (bF (by omega)) fun a hF => ?_)
         refine sB 2 [(90, .bool false), (91, .int .i64 port)] hF (by kernel_rfl) fun a hF => ?_
         refine wl (eP 92 (v0 := .bool (decide (47 < port))) (v := .bool false) hF (by kernel_rfl) (fun _ => by kernel_rfl) (bF (by omega)) fun a hF => ?_)
         refine sB 1 [(93, .bool false)] hF (by kernel_rfl) fun a hF => ?_
         refine wpList_nil ?_
         refine hK68 _ _ ?_
         refine cF hF (by kernel_rfl) (by kernel_rfl) ?_
         refine wp_seq_k fun K69 hK69 => ?_
         refine wp_region_lit ?_
         refine sB 2 [(94, .bool true), (95, .bool false)] hF (by kernel_rfl) fun a hF => ?_
         refine wpList_nil ?_
         refine hK69 _ _ ?_
         refine cF hF (by kernel_rfl) (by kernel_rfl) ?_
         refine wp_seq_k fun K70 hK70 => ?_
         refine wp_region_lit ?_
         refine sB 2 [(96, .int .i64 t), (97, .pointer (some ⟨bb5, 2, none⟩))] hF (by kernel_rfl) fun a hF => ?_
         refine wl (eL 98 13 2 (v := .int .i64 now) hF hM (by kernel_rfl) rfl rfl (by kernel_rfl) (by kernel_rfl) fun a w hF hM => ?_)
         refine wl (eP 99 (v0 := .bool (decide (t < now))) (v := .bool false) hF (by kernel_rfl) (fun _ => by kernel_rfl) (bF (by omega)) fun a hF => ?_)
         refine sB 2 [(100, .bool false), (101, .int .i64 t)] hF (by kernel_rfl) fun a hF => ?_
         refine wl (eP 102 (v0 := .bool (decide (549755813888 < t))) (v := .bool true) hF (by kernel_rfl) (fun _ => by kernel_rfl) (bT (by omega)) fun a hF => ?_)
         refine sB 1 [(103, .bool true)] hF (by kernel_rfl) fun a hF => ?_
         refine wpList_nil ?_
         refine hK70 _ _ ?_
         refine cT hF (by kernel_rfl) (by kernel_rfl) ?_
         refine wp_region_lit ?_
         refine sB 1 [(16, .int .i64 2)] hF (by kernel_rfl) fun a hF => ?_
         refine wpList_nil ?_
         refine hK67 _ _ ?_
         refine wp_seq_k fun K71 hK71 => ?_
         refine wp_seq_k fun K72 hK72 => ?_
         refine wp_region_lit ?_
         refine sB 1 [(104, .int .i64 2)] hF (by kernel_rfl) fun a hF => ?_
         refine wl (eP 105 (v0 := .bool (!decide (2 = 0))) (v := .bool true) hF (by kernel_rfl) (fun _ => by kernel_rfl) (nF (by omega)) fun a hF => ?_)
         refine wpList_nil ?_
         refine hK72 _ _ ?_
         refine cT hF (by kernel_rfl) (by kernel_rfl) ?_
         refine wp_seq_k fun K73 hK73 => ?_
         refine wp_region_lit ?_
         refine wl (eL 106 23 0 (v := .agg #[.slice none 0 0, .slice none 0 0, .int .i64 0, .slice none 0 0, .slice none 0 0]) hF hM (by kernel_rfl) rfl rfl (by kernel_rfl) (by kernel_rfl) fun a w hF hM => ?_)
         refine sB 1 [(107, .agg #[.slice none 0 0, .slice none 0 0, .int .i64 0, .slice none 0 0, .slice none 0 0])] hF (by kernel_rfl) fun a hF => ?_
         refine wl (eM 108 (v := .bool true) hF hM (by kernel_rfl) (yld_call (f := 15) (args := #[.agg #[.slice none 0 0, .slice none 0 0, .int .i64 0, .slice none 0 0, .slice none 0 0], .agg #[.slice none 0 0, .slice none 0 0, .int .i64 0, .slice none 0 0, .slice none 0 0]]) hF (by kernel_rfl) (fun _ => by kernel_rfl) (fun w hM => calls_bool (same_refl ([] : List (List Int)) ([] : List (List Int)) 0 ([] : List Int) ([] : List (List Int))) (same33_x none ([] : List (List Int)) 0 none ([] : List (List Int)) 0 0 none ([] : List Int) 0 none ([] : List (List Int)) 0 none ([] : List (List Int)) 0 none ([] : List (List Int)) 0 0 none ([] : List Int) 0 none ([] : List (List Int)) 0 w Ro.nil WR.nil Ro.nil WR.nil Ro.nil Ro.nil WR.nil Ro.nil WR.nil Ro.nil WR.nil Ro.nil Ro.nil WR.nil ⟨by first | omega | decide, by first | omega | decide, by first | omega | decide, by first | omega | decide⟩ rfl rfl rfl rfl rfl rfl rfl rfl))) fun a w hF hM => ?_)
         refine sB 2 [(109, .bool true), (110, .int .i64 0)] hF (by kernel_rfl) fun a hF => ?_
         refine wl (eP 111 (v0 := .bool (decide (0 = 0))) (v := .bool true) hF (by kernel_rfl) (fun _ => by kernel_rfl) (bT (by omega)) fun a hF => ?_)
         refine sB 4 [(112, .bool true), (113, .bool true), (114, .int .i64 2), (115, .int .i64 2)] hF (by kernel_rfl) fun a hF => ?_
         refine wl (eP 116 (v0 := .bool (decide (2 = 2))) (v := .bool true) hF (by kernel_rfl) (fun _ => by kernel_rfl) (bT (by omega)) fun a hF => ?_)
         refine sB 2 [(117, .bool true), (8, .bool true)] hF (by kernel_rfl) fun a hF => ?_
         refine wpList_nil ?_
         refine hK73 _ _ ?_
         refine wp_ret ?_
         refine hR0 _ _ ?_
         refine ret_of hF hM (.tmp rfl (.nil)) ?_
         exact ⟨rfl, hM.bel⟩
       ·skip
        refine wp_region_lit ?_
        refine wl (eL 31 13 0 (v := .agg #[.slice A lsl.length ca, .slice A2 lsl_2.length cq_, .int .i64 now, .slice A3 lsl_3.length cs, .slice A4 lsl_4.length cm]) hF hM (by kernel_rfl) rfl rfl (by kernel_rfl) (by kernel_rfl) fun a w hF hM => ?_)
        refine sB 1 [(32, .int .i64 port)] hF (by kernel_rfl) fun a hF => ?_
        refine wl (eL 33 6 0 (v := .agg #[.int .i64 i1, .int .i64 i2, .int .i64 i3, .int .i64 i4, .int .i64 i5]) hF hM (by kernel_rfl) rfl rfl (by kernel_rfl) (by kernel_rfl) fun a w hF hM => ?_)
        refine sB 1 [(34, .int .i64 t)] hF (by kernel_rfl) fun a hF => ?_
        refine wl (eM 35 (v := .tuple #[.agg #[.slice none 0 0, .slice none 0 0, .int .i64 0, .slice none 0 0, .slice none 0 0], .int .i64 0, .int .i64 2]) hF hM (by kernel_rfl) (yld_call (f := 17) (args := #[.agg #[.slice A lsl.length ca, .slice A2 lsl_2.length cq_, .int .i64 now, .slice A3 lsl_3.length cs, .slice A4 lsl_4.length cm], .int .i64 port, .agg #[.int .i64 i1, .int .i64 i2, .int .i64 i3, .int .i64 i4, .int .i64 i5], .int .i64 t]) hF (by kernel_rfl) (fun _ => by kernel_rfl) (fun w hM => ps_err (ps_time hz1 ⟨hz5, hz6⟩ hz2 (fun z => absurd z.1 hz7)) (by decide) (fun q => fiPass_no A lsl ca A2 lsl_2 cq_ now A3 lsl_3 cs A4 lsl_4 cm port i1 i2 i3 i4 i5 t w (hM.ok 9 _ rfl) hW_lsl (hM.ok 10 _ rfl) hW_lsl_2 (hM.ok 11 _ rfl) (hM.ok 12 _ rfl) hW_lsl_4 q))) fun a w hF hM => ?_)
        refine sB 4 [(30, .tuple #[.agg #[.slice none 0 0, .slice none 0 0, .int .i64 0, .slice none 0 0, .slice none 0 0], .int .i64 0, .int .i64 2]), (36, .agg #[.slice none 0 0, .slice none 0 0, .int .i64 0, .slice none 0 0, .slice none 0 0]), (37, .int .i64 0), (38, .int .i64 2)] hF (by kernel_rfl) fun a hF => ?_
        refine wl (eN 12 24 (t := 27) (fun b => .pointer (some ⟨b, 0, none⟩)) #[.slice none 0 0, .slice none 0 0, .int .i64 0, .slice none 0 0, .slice none 0 0] hF hM (by kernel_rfl) (fun _ => by kernel_rfl) fun bb16 a w hF hM => ?_)
        refine wl (sStore (i := 24) (off := 0) (cs' := #[.slice none 0 0, .slice none 0 0, .int .i64 0, .slice none 0 0, .slice none 0 0]) hF hM (by kernel_rfl) rfl rfl (by kernel_rfl) (by kernel_rfl) rfl (by kernel_rfl) fun w hM => ?_)
        refine sB 2 [(13, .int .i64 0), (14, .int .i64 2)] hF (by kernel_rfl) fun a hF => ?_
        refine wpList_nil ?_
        refine hK46 _ _ ?_
        refine wp_seq_k fun K74 hK74 => ?_
        refine wp_seq_k fun K75 hK75 => ?_
        have hfr := flB_yes hz1
        refine wp_region_lit ?_
        refine wl (eL 39 13 0 (v := .agg #[.slice A lsl.length ca, .slice A2 lsl_2.length cq_, .int .i64 now, .slice A3 lsl_3.length cs, .slice A4 lsl_4.length cm]) hF hM (by kernel_rfl) rfl rfl (by kernel_rfl) (by kernel_rfl) fun a w hF hM => ?_)
        refine wl (eM 40 (v := .bool true) hF hM (by kernel_rfl) (Yld.to (yld_call (f := 11) (args := #[.agg #[.slice A lsl.length ca, .slice A2 lsl_2.length cq_, .int .i64 now, .slice A3 lsl_3.length cs, .slice A4 lsl_4.length cm]]) hF (by kernel_rfl) (fun _ => by kernel_rfl) (fun w hM => rRight33_x A lsl ca A2 lsl_2 cq_ now A3 lsl_3 cs A4 lsl_4 cm w (hM.ok 9 _ rfl) hW_lsl (hM.ok 10 _ rfl) hW_lsl_2 (hM.ok 11 _ rfl) (hM.ok 12 _ rfl) hW_lsl_4 rfl rfl rfl rfl)) (congrArg Value.bool hfr)) fun a w hF hM => ?_)
        refine sB 1 [(41, .bool false)] hF (by kernel_rfl) fun a hF => ?_
        refine wpList_nil ?_
        refine hK75 _ _ ?_
        refine cF hF (by kernel_rfl) (by kernel_rfl) ?_
        refine wp_skip ?_
        refine hK74 _ _ ?_
        refine wp_seq_k fun K76 hK76 => ?_
        refine wp_region_lit ?_
        refine wl (eL 61 6 0 (v := .agg #[.int .i64 i1, .int .i64 i2, .int .i64 i3, .int .i64 i4, .int .i64 i5]) hF hM (by kernel_rfl) rfl rfl (by kernel_rfl) (by kernel_rfl) fun a w hF hM => ?_)
        refine wl (eM 62 (v := .bool true) hF hM (by kernel_rfl) (Yld.to (yld_call (f := 18) (args := #[.agg #[.int .i64 i1, .int .i64 i2, .int .i64 i3, .int .i64 i4, .int .i64 i5]]) hF (by kernel_rfl) (fun _ => by kernel_rfl) (fun w hM => rItem33_w i1 i2 i3 i4 i5 w)) (congrArg Value.bool hz2)) fun a w hF hM => ?_)
        refine sB 1 [(15, .bool true)] hF (by kernel_rfl) fun a hF => ?_
        refine wpList_nil ?_
        refine hK76 _ _ ?_
        refine wp_seq_k fun K77 hK77 => ?_
        refine wp_seq_k fun K78 hK78 => ?_
        refine wp_region_lit ?_
        refine sB 3 [(63, .bool true), (64, .bool true), (65, .int .i64 (regI port i1 i3 lsl))] hF (by kernel_rfl) fun a hF => ?_
        refine wl (eL 66 13 0 (v := .agg #[.slice A lsl.length ca, .slice A2 lsl_2.length cq_, .int .i64 now, .slice A3 lsl_3.length cs, .slice A4 lsl_4.length cm]) hF hM (by kernel_rfl) rfl rfl (by kernel_rfl) (by kernel_rfl) fun a w hF hM => ?_)
        refine sB 1 [(67, .int .i64 port)] hF (by kernel_rfl) fun a hF => ?_
        refine wl (eL 68 6 0 (v := .agg #[.int .i64 i1, .int .i64 i2, .int .i64 i3, .int .i64 i4, .int .i64 i5]) hF hM (by kernel_rfl) rfl rfl (by kernel_rfl) (by kernel_rfl) fun a w hF hM => ?_)
        refine wl (eM 69 (v := .int .i64 (regI port i1 i3 lsl)) hF hM (by kernel_rfl) (yld_call (f := 19) (args := #[.agg #[.slice A lsl.length ca, .slice A2 lsl_2.length cq_, .int .i64 now, .slice A3 lsl_3.length cs, .slice A4 lsl_4.length cm], .int .i64 port, .agg #[.int .i64 i1, .int .i64 i2, .int .i64 i3, .int .i64 i4, .int .i64 i5]]) hF (by kernel_rfl) (fun _ => by kernel_rfl) (fun w hM => rFind33_w A lsl ca A2 lsl_2 cq_ now A3 lsl_3 cs A4 lsl_4 cm port i1 i2 i3 i4 i5 w (hM.ok 9 _ rfl) hW_lsl (hM.ok 10 _ rfl) hW_lsl_2 (hM.ok 11 _ rfl) (hM.ok 12 _ rfl) hW_lsl_4 (fl_len (fl_p hz1)).1)) fun a w hF hM => ?_)
        refine wl (eP 70 (v0 := .bool (!decide (regI port i1 i3 lsl = regI port i1 i3 lsl))) (v := .bool false) hF (by kernel_rfl) (fun _ => by kernel_rfl) (nT (by omega)) fun a hF => ?_)
        refine sB 2 [(71, .bool false), (72, .int .i64 0)] hF (by kernel_rfl) fun a hF => ?_
        refine wl (eP 73 (v0 := .bool (!decide (0 = 0))) (v := .bool false) hF (by kernel_rfl) (fun _ => by kernel_rfl) (nT (by omega)) fun a hF => ?_)
        refine sB 14 [(74, .bool false), (75, .bool false), (76, .bool false), (77, .bool true), (78, .bool false), (79, .bool false), (80, undef), (81, undef), (82, undef), (83, undef), (84, undef), (85, undef), (86, .bool false), (87, .bool false)] hF (by kernel_rfl) fun a hF => ?_
        refine wpList_nil ?_
        refine hK78 _ _ ?_
        refine cF hF (by kernel_rfl) (by kernel_rfl) ?_
        refine wp_skip ?_
        refine hK77 _ _ ?_
        refine wp_seq_k fun K79 hK79 => ?_
        refine wp_region_lit ?_
        refine sB 1 [(16, .int .i64 0)] hF (by kernel_rfl) fun a hF => ?_
        refine wpList_nil ?_
        refine hK79 _ _ ?_
        refine wp_seq_k fun K80 hK80 => ?_
        refine wp_seq_k fun K81 hK81 => ?_
        refine wp_region_lit ?_
        refine sB 1 [(88, .int .i64 port)] hF (by kernel_rfl) fun a hF => ?_
        refine wl (eP 89 (v0 := .bool (decide (port < 0))) (v := .bool false) hF (by kernel_rfl) (fun _ => by kernel_rfl) (bF (by omega)) fun a hF => ?_)
        refine sB 2 [(90, .bool false), (91, .int .i64 port)] hF (by kernel_rfl) fun a hF => ?_
        refine wl (eP 92 (v0 := .bool (decide (47 < port))) (v := .bool false) hF (by kernel_rfl) (fun _ => by kernel_rfl) (bF (by omega)) fun a hF => ?_)
        refine sB 1 [(93, .bool false)] hF (by kernel_rfl) fun a hF => ?_
        refine wpList_nil ?_
        refine hK81 _ _ ?_
        refine cF hF (by kernel_rfl) (by kernel_rfl) ?_
        refine wp_seq_k fun K82 hK82 => ?_
        refine wp_region_lit ?_
        refine sB 2 [(94, .bool true), (95, .bool false)] hF (by kernel_rfl) fun a hF => ?_
        refine wpList_nil ?_
        refine hK82 _ _ ?_
        refine cF hF (by kernel_rfl) (by kernel_rfl) ?_
        refine wp_seq_k fun K83 hK83 => ?_
        refine wp_region_lit ?_
        refine sB 2 [(96, .int .i64 t), (97, .pointer (some ⟨bb5, 2, none⟩))] hF (by kernel_rfl) fun a hF => ?_
        refine wl (eL 98 13 2 (v := .int .i64 now) hF hM (by kernel_rfl) rfl rfl (by kernel_rfl) (by kernel_rfl) fun a w hF hM => ?_)
        refine wl (eP 99 (v0 := .bool (decide (t < now))) (v := .bool true) hF (by kernel_rfl) (fun _ => by kernel_rfl) (bT (by omega)) fun a hF => ?_)
        refine sB 4 [(100, .bool true), (101, undef), (102, undef), (103, .bool true)] hF (by kernel_rfl) fun a hF => ?_
        refine wpList_nil ?_
        refine hK83 _ _ ?_
        refine cT hF (by kernel_rfl) (by kernel_rfl) ?_
        refine wp_region_lit ?_
        refine sB 1 [(16, .int .i64 2)] hF (by kernel_rfl) fun a hF => ?_
        refine wpList_nil ?_
        refine hK80 _ _ ?_
        refine wp_seq_k fun K84 hK84 => ?_
        refine wp_seq_k fun K85 hK85 => ?_
        refine wp_region_lit ?_
        refine sB 1 [(104, .int .i64 2)] hF (by kernel_rfl) fun a hF => ?_
        refine wl (eP 105 (v0 := .bool (!decide (2 = 0))) (v := .bool true) hF (by kernel_rfl) (fun _ => by kernel_rfl) (nF (by omega)) fun a hF => ?_)
        refine wpList_nil ?_
        refine hK85 _ _ ?_
        refine cT hF (by kernel_rfl) (by kernel_rfl) ?_
        refine wp_seq_k fun K86 hK86 => ?_
        refine wp_region_lit ?_
        refine wl (eL 106 24 0 (v := .agg #[.slice none 0 0, .slice none 0 0, .int .i64 0, .slice none 0 0, .slice none 0 0]) hF hM (by kernel_rfl) rfl rfl (by kernel_rfl) (by kernel_rfl) fun a w hF hM => ?_)
        refine sB 1 [(107, .agg #[.slice none 0 0, .slice none 0 0, .int .i64 0, .slice none 0 0, .slice none 0 0])] hF (by kernel_rfl) fun a hF => ?_
        refine wl (eM 108 (v := .bool true) hF hM (by kernel_rfl) (yld_call (f := 15) (args := #[.agg #[.slice none 0 0, .slice none 0 0, .int .i64 0, .slice none 0 0, .slice none 0 0], .agg #[.slice none 0 0, .slice none 0 0, .int .i64 0, .slice none 0 0, .slice none 0 0]]) hF (by kernel_rfl) (fun _ => by kernel_rfl) (fun w hM => calls_bool (same_refl ([] : List (List Int)) ([] : List (List Int)) 0 ([] : List Int) ([] : List (List Int))) (same33_x none ([] : List (List Int)) 0 none ([] : List (List Int)) 0 0 none ([] : List Int) 0 none ([] : List (List Int)) 0 none ([] : List (List Int)) 0 none ([] : List (List Int)) 0 0 none ([] : List Int) 0 none ([] : List (List Int)) 0 w Ro.nil WR.nil Ro.nil WR.nil Ro.nil Ro.nil WR.nil Ro.nil WR.nil Ro.nil WR.nil Ro.nil Ro.nil WR.nil ⟨by first | omega | decide, by first | omega | decide, by first | omega | decide, by first | omega | decide⟩ rfl rfl rfl rfl rfl rfl rfl rfl))) fun a w hF hM => ?_)
        refine sB 2 [(109, .bool true), (110, .int .i64 0)] hF (by kernel_rfl) fun a hF => ?_
        refine wl (eP 111 (v0 := .bool (decide (0 = 0))) (v := .bool true) hF (by kernel_rfl) (fun _ => by kernel_rfl) (bT (by omega)) fun a hF => ?_)
        refine sB 4 [(112, .bool true), (113, .bool true), (114, .int .i64 2), (115, .int .i64 2)] hF (by kernel_rfl) fun a hF => ?_
        refine wl (eP 116 (v0 := .bool (decide (2 = 2))) (v := .bool true) hF (by kernel_rfl) (fun _ => by kernel_rfl) (bT (by omega)) fun a hF => ?_)
        refine sB 2 [(117, .bool true), (8, .bool true)] hF (by kernel_rfl) fun a hF => ?_
        refine wpList_nil ?_
        refine hK86 _ _ ?_
        refine wp_ret ?_
        refine hR0 _ _ ?_
        refine ret_of hF hM (.tmp rfl (.nil)) ?_
        exact ⟨rfl, hM.bel⟩
      ·skip
       refine wp_region_lit ?_
       refine wl (eL 31 13 0 (v := .agg #[.slice A lsl.length ca, .slice A2 lsl_2.length cq_, .int .i64 now, .slice A3 lsl_3.length cs, .slice A4 lsl_4.length cm]) hF hM (by kernel_rfl) rfl rfl (by kernel_rfl) (by kernel_rfl) fun a w hF hM => ?_)
       refine sB 1 [(32, .int .i64 port)] hF (by kernel_rfl) fun a hF => ?_
       refine wl (eL 33 6 0 (v := .agg #[.int .i64 i1, .int .i64 i2, .int .i64 i3, .int .i64 i4, .int .i64 i5]) hF hM (by kernel_rfl) rfl rfl (by kernel_rfl) (by kernel_rfl) fun a w hF hM => ?_)
       refine sB 1 [(34, .int .i64 t)] hF (by kernel_rfl) fun a hF => ?_
       refine wl (eM 35 (v := .tuple #[.agg #[.slice none 0 0, .slice none 0 0, .int .i64 0, .slice none 0 0, .slice none 0 0], .int .i64 0, .int .i64 2]) hF hM (by kernel_rfl) (yld_call (f := 17) (args := #[.agg #[.slice A lsl.length ca, .slice A2 lsl_2.length cq_, .int .i64 now, .slice A3 lsl_3.length cs, .slice A4 lsl_4.length cm], .int .i64 port, .agg #[.int .i64 i1, .int .i64 i2, .int .i64 i3, .int .i64 i4, .int .i64 i5], .int .i64 t]) hF (by kernel_rfl) (fun _ => by kernel_rfl) (fun w hM => ps_err (ps_port hz1 (fun z => absurd z.2 hz6)) (by decide) (fun q => fiPass_no A lsl ca A2 lsl_2 cq_ now A3 lsl_3 cs A4 lsl_4 cm port i1 i2 i3 i4 i5 t w (hM.ok 9 _ rfl) hW_lsl (hM.ok 10 _ rfl) hW_lsl_2 (hM.ok 11 _ rfl) (hM.ok 12 _ rfl) hW_lsl_4 q))) fun a w hF hM => ?_)
       refine sB 4 [(30, .tuple #[.agg #[.slice none 0 0, .slice none 0 0, .int .i64 0, .slice none 0 0, .slice none 0 0], .int .i64 0, .int .i64 2]), (36, .agg #[.slice none 0 0, .slice none 0 0, .int .i64 0, .slice none 0 0, .slice none 0 0]), (37, .int .i64 0), (38, .int .i64 2)] hF (by kernel_rfl) fun a hF => ?_
       refine wl (eN 12 25 (t := 27) (fun b => .pointer (some ⟨b, 0, none⟩)) #[.slice none 0 0, .slice none 0 0, .int .i64 0, .slice none 0 0, .slice none 0 0] hF hM (by kernel_rfl) (fun _ => by kernel_rfl) fun bb17 a w hF hM => ?_)
       refine wl (sStore (i := 25) (off := 0) (cs' := #[.slice none 0 0, .slice none 0 0, .int .i64 0, .slice none 0 0, .slice none 0 0]) hF hM (by kernel_rfl) rfl rfl (by kernel_rfl) (by kernel_rfl) rfl (by kernel_rfl) fun w hM => ?_)
       refine sB 2 [(13, .int .i64 0), (14, .int .i64 2)] hF (by kernel_rfl) fun a hF => ?_
       refine wpList_nil ?_
       refine hK46 _ _ ?_
       refine wp_seq_k fun K87 hK87 => ?_
       refine wp_seq_k fun K88 hK88 => ?_
       have hfr := flB_yes hz1
       refine wp_region_lit ?_
       refine wl (eL 39 13 0 (v := .agg #[.slice A lsl.length ca, .slice A2 lsl_2.length cq_, .int .i64 now, .slice A3 lsl_3.length cs, .slice A4 lsl_4.length cm]) hF hM (by kernel_rfl) rfl rfl (by kernel_rfl) (by kernel_rfl) fun a w hF hM => ?_)
       refine wl (eM 40 (v := .bool true) hF hM (by kernel_rfl) (Yld.to (yld_call (f := 11) (args := #[.agg #[.slice A lsl.length ca, .slice A2 lsl_2.length cq_, .int .i64 now, .slice A3 lsl_3.length cs, .slice A4 lsl_4.length cm]]) hF (by kernel_rfl) (fun _ => by kernel_rfl) (fun w hM => rRight33_x A lsl ca A2 lsl_2 cq_ now A3 lsl_3 cs A4 lsl_4 cm w (hM.ok 9 _ rfl) hW_lsl (hM.ok 10 _ rfl) hW_lsl_2 (hM.ok 11 _ rfl) (hM.ok 12 _ rfl) hW_lsl_4 rfl rfl rfl rfl)) (congrArg Value.bool hfr)) fun a w hF hM => ?_)
       refine sB 1 [(41, .bool false)] hF (by kernel_rfl) fun a hF => ?_
       refine wpList_nil ?_
       refine hK88 _ _ ?_
       refine cF hF (by kernel_rfl) (by kernel_rfl) ?_
       refine wp_skip ?_
       refine hK87 _ _ ?_
       refine wp_seq_k fun K89 hK89 => ?_
       refine wp_region_lit ?_
       refine wl (eL 61 6 0 (v := .agg #[.int .i64 i1, .int .i64 i2, .int .i64 i3, .int .i64 i4, .int .i64 i5]) hF hM (by kernel_rfl) rfl rfl (by kernel_rfl) (by kernel_rfl) fun a w hF hM => ?_)
       refine wl (eM 62 (v := .bool true) hF hM (by kernel_rfl) (Yld.to (yld_call (f := 18) (args := #[.agg #[.int .i64 i1, .int .i64 i2, .int .i64 i3, .int .i64 i4, .int .i64 i5]]) hF (by kernel_rfl) (fun _ => by kernel_rfl) (fun w hM => rItem33_w i1 i2 i3 i4 i5 w)) (congrArg Value.bool hz2)) fun a w hF hM => ?_)
       refine sB 1 [(15, .bool true)] hF (by kernel_rfl) fun a hF => ?_
       refine wpList_nil ?_
       refine hK89 _ _ ?_
       refine wp_seq_k fun K90 hK90 => ?_
       refine wp_seq_k fun K91 hK91 => ?_
       refine wp_region_lit ?_
       refine sB 3 [(63, .bool true), (64, .bool true), (65, .int .i64 (regI port i1 i3 lsl))] hF (by kernel_rfl) fun a hF => ?_
       refine wl (eL 66 13 0 (v := .agg #[.slice A lsl.length ca, .slice A2 lsl_2.length cq_, .int .i64 now, .slice A3 lsl_3.length cs, .slice A4 lsl_4.length cm]) hF hM (by kernel_rfl) rfl rfl (by kernel_rfl) (by kernel_rfl) fun a w hF hM => ?_)
       refine sB 1 [(67, .int .i64 port)] hF (by kernel_rfl) fun a hF => ?_
       refine wl (eL 68 6 0 (v := .agg #[.int .i64 i1, .int .i64 i2, .int .i64 i3, .int .i64 i4, .int .i64 i5]) hF hM (by kernel_rfl) rfl rfl (by kernel_rfl) (by kernel_rfl) fun a w hF hM => ?_)
       refine wl (eM 69 (v := .int .i64 (regI port i1 i3 lsl)) hF hM (by kernel_rfl) (yld_call (f := 19) (args := #[.agg #[.slice A lsl.length ca, .slice A2 lsl_2.length cq_, .int .i64 now, .slice A3 lsl_3.length cs, .slice A4 lsl_4.length cm], .int .i64 port, .agg #[.int .i64 i1, .int .i64 i2, .int .i64 i3, .int .i64 i4, .int .i64 i5]]) hF (by kernel_rfl) (fun _ => by kernel_rfl) (fun w hM => rFind33_w A lsl ca A2 lsl_2 cq_ now A3 lsl_3 cs A4 lsl_4 cm port i1 i2 i3 i4 i5 w (hM.ok 9 _ rfl) hW_lsl (hM.ok 10 _ rfl) hW_lsl_2 (hM.ok 11 _ rfl) (hM.ok 12 _ rfl) hW_lsl_4 (fl_len (fl_p hz1)).1)) fun a w hF hM => ?_)
       refine wl (eP 70 (v0 := .bool (!decide (regI port i1 i3 lsl = regI port i1 i3 lsl))) (v := .bool false) hF (by kernel_rfl) (fun _ => by kernel_rfl) (nT (by omega)) fun a hF => ?_)
       refine sB 2 [(71, .bool false), (72, .int .i64 0)] hF (by kernel_rfl) fun a hF => ?_
       refine wl (eP 73 (v0 := .bool (!decide (0 = 0))) (v := .bool false) hF (by kernel_rfl) (fun _ => by kernel_rfl) (nT (by omega)) fun a hF => ?_)
       refine sB 14 [(74, .bool false), (75, .bool false), (76, .bool false), (77, .bool true), (78, .bool false), (79, .bool false), (80, undef), (81, undef), (82, undef), (83, undef), (84, undef), (85, undef), (86, .bool false), (87, .bool false)] hF (by kernel_rfl) fun a hF => ?_
       refine wpList_nil ?_
       refine hK91 _ _ ?_
       refine cF hF (by kernel_rfl) (by kernel_rfl) ?_
       refine wp_skip ?_
       refine hK90 _ _ ?_
       refine wp_seq_k fun K92 hK92 => ?_
       refine wp_region_lit ?_
       refine sB 1 [(16, .int .i64 0)] hF (by kernel_rfl) fun a hF => ?_
       refine wpList_nil ?_
       refine hK92 _ _ ?_
       refine wp_seq_k fun K93 hK93 => ?_
       refine wp_seq_k fun K94 hK94 => ?_
       refine wp_region_lit ?_
       refine sB 1 [(88, .int .i64 port)] hF (by kernel_rfl) fun a hF => ?_
       refine wl (eP 89 (v0 := .bool (decide (port < 0))) (v := .bool false) hF (by kernel_rfl) (fun _ => by kernel_rfl) (bF (by omega)) fun a hF => ?_)
       refine sB 2 [(90, .bool false), (91, .int .i64 port)] hF (by kernel_rfl) fun a hF => ?_
       refine wl (eP 92 (v0 := .bool (decide (47 < port))) (v := .bool true) hF (by kernel_rfl) (fun _ => by kernel_rfl) (bT (by omega)) fun a hF => ?_)
       refine sB 1 [(93, .bool true)] hF (by kernel_rfl) fun a hF => ?_
       refine wpList_nil ?_
       refine hK94 _ _ ?_
       refine cT hF (by kernel_rfl) (by kernel_rfl) ?_
       refine wp_region_lit ?_
       refine sB 1 [(16, .int .i64 2)] hF (by kernel_rfl) fun a hF => ?_
       refine wpList_nil ?_
       refine hK93 _ _ ?_
       refine wp_seq_k fun K95 hK95 => ?_
       refine wp_seq_k fun K96 hK96 => ?_
       refine wp_region_lit ?_
       refine sB 1 [(104, .int .i64 2)] hF (by kernel_rfl) fun a hF => ?_
       refine wl (eP 105 (v0 := .bool (!decide (2 = 0))) (v := .bool true) hF (by kernel_rfl) (fun _ => by kernel_rfl) (nF (by omega)) fun a hF => ?_)
       refine wpList_nil ?_
       refine hK96 _ _ ?_
       refine cT hF (by kernel_rfl) (by kernel_rfl) ?_
       refine wp_seq_k fun K97 hK97 => ?_
       refine wp_region_lit ?_
       refine wl (eL 106 25 0 (v := .agg #[.slice none 0 0, .slice none 0 0, .int .i64 0, .slice none 0 0, .slice none 0 0]) hF hM (by kernel_rfl) rfl rfl (by kernel_rfl) (by kernel_rfl) fun a w hF hM => ?_)
       refine sB 1 [(107, .agg #[.slice none 0 0, .slice none 0 0, .int .i64 0, .slice none 0 0, .slice none 0 0])] hF (by kernel_rfl) fun a hF => ?_
       refine wl (eM 108 (v := .bool true) hF hM (by kernel_rfl) (yld_call (f := 15) (args := #[.agg #[.slice none 0 0, .slice none 0 0, .int .i64 0, .slice none 0 0, .slice none 0 0], .agg #[.slice none 0 0, .slice none 0 0, .int .i64 0, .slice none 0 0, .slice none 0 0]]) hF (by kernel_rfl) (fun _ => by kernel_rfl) (fun w hM => calls_bool (same_refl ([] : List (List Int)) ([] : List (List Int)) 0 ([] : List Int) ([] : List (List Int))) (same33_x none ([] : List (List Int)) 0 none ([] : List (List Int)) 0 0 none ([] : List Int) 0 none ([] : List (List Int)) 0 none ([] : List (List Int)) 0 none ([] : List (List Int)) 0 0 none ([] : List Int) 0 none ([] : List (List Int)) 0 w Ro.nil WR.nil Ro.nil WR.nil Ro.nil Ro.nil WR.nil Ro.nil WR.nil Ro.nil WR.nil Ro.nil Ro.nil WR.nil ⟨by first | omega | decide, by first | omega | decide, by first | omega | decide, by first | omega | decide⟩ rfl rfl rfl rfl rfl rfl rfl rfl))) fun a w hF hM => ?_)
       refine sB 2 [(109, .bool true), (110, .int .i64 0)] hF (by kernel_rfl) fun a hF => ?_
       refine wl (eP 111 (v0 := .bool (decide (0 = 0))) (v := .bool true) hF (by kernel_rfl) (fun _ => by kernel_rfl) (bT (by omega)) fun a hF => ?_)
       refine sB 4 [(112, .bool true), (113, .bool true), (114, .int .i64 2), (115, .int .i64 2)] hF (by kernel_rfl) fun a hF => ?_
       refine wl (eP 116 (v0 := .bool (decide (2 = 2))) (v := .bool true) hF (by kernel_rfl) (fun _ => by kernel_rfl) (bT (by omega)) fun a hF => ?_)
       refine sB 2 [(117, .bool true), (8, .bool true)] hF (by kernel_rfl) fun a hF => ?_
       refine wpList_nil ?_
       refine hK97 _ _ ?_
       refine wp_ret ?_
       refine hR0 _ _ ?_
       refine ret_of hF hM (.tmp rfl (.nil)) ?_
       exact ⟨rfl, hM.bel⟩
     ·skip
      refine wp_region_lit ?_
      refine wl (eL 31 13 0 (v := .agg #[.slice A lsl.length ca, .slice A2 lsl_2.length cq_, .int .i64 now, .slice A3 lsl_3.length cs, .slice A4 lsl_4.length cm]) hF hM (by kernel_rfl) rfl rfl (by kernel_rfl) (by kernel_rfl) fun a w hF hM => ?_)
      refine sB 1 [(32, .int .i64 port)] hF (by kernel_rfl) fun a hF => ?_
      refine wl (eL 33 6 0 (v := .agg #[.int .i64 i1, .int .i64 i2, .int .i64 i3, .int .i64 i4, .int .i64 i5]) hF hM (by kernel_rfl) rfl rfl (by kernel_rfl) (by kernel_rfl) fun a w hF hM => ?_)
      refine sB 1 [(34, .int .i64 t)] hF (by kernel_rfl) fun a hF => ?_
      refine wl (eM 35 (v := .tuple #[.agg #[.slice none 0 0, .slice none 0 0, .int .i64 0, .slice none 0 0, .slice none 0 0], .int .i64 0, .int .i64 2]) hF hM (by kernel_rfl) (yld_call (f := 17) (args := #[.agg #[.slice A lsl.length ca, .slice A2 lsl_2.length cq_, .int .i64 now, .slice A3 lsl_3.length cs, .slice A4 lsl_4.length cm], .int .i64 port, .agg #[.int .i64 i1, .int .i64 i2, .int .i64 i3, .int .i64 i4, .int .i64 i5], .int .i64 t]) hF (by kernel_rfl) (fun _ => by kernel_rfl) (fun w hM => ps_err (ps_port hz1 (fun z => absurd z.1 hz5)) (by decide) (fun q => fiPass_no A lsl ca A2 lsl_2 cq_ now A3 lsl_3 cs A4 lsl_4 cm port i1 i2 i3 i4 i5 t w (hM.ok 9 _ rfl) hW_lsl (hM.ok 10 _ rfl) hW_lsl_2 (hM.ok 11 _ rfl) (hM.ok 12 _ rfl) hW_lsl_4 q))) fun a w hF hM => ?_)
      refine sB 4 [(30, .tuple #[.agg #[.slice none 0 0, .slice none 0 0, .int .i64 0, .slice none 0 0, .slice none 0 0], .int .i64 0, .int .i64 2]), (36, .agg #[.slice none 0 0, .slice none 0 0, .int .i64 0, .slice none 0 0, .slice none 0 0]), (37, .int .i64 0), (38, .int .i64 2)] hF (by kernel_rfl) fun a hF => ?_
      refine wl (eN 12 26 (t := 27) (fun b => .pointer (some ⟨b, 0, none⟩)) #[.slice none 0 0, .slice none 0 0, .int .i64 0, .slice none 0 0, .slice none 0 0] hF hM (by kernel_rfl) (fun _ => by kernel_rfl) fun bb18 a w hF hM => ?_)
      refine wl (sStore (i := 26) (off := 0) (cs' := #[.slice none 0 0, .slice none 0 0, .int .i64 0, .slice none 0 0, .slice none 0 0]) hF hM (by kernel_rfl) rfl rfl (by kernel_rfl) (by kernel_rfl) rfl (by kernel_rfl) fun w hM => ?_)
      refine sB 2 [(13, .int .i64 0), (14, .int .i64 2)] hF (by kernel_rfl) fun a hF => ?_
      refine wpList_nil ?_
      refine hK46 _ _ ?_
      refine wp_seq_k fun K98 hK98 => ?_
      refine wp_seq_k fun K99 hK99 => ?_
      have hfr := flB_yes hz1
      refine wp_region_lit ?_
      refine wl (eL 39 13 0 (v := .agg #[.slice A lsl.length ca, .slice A2 lsl_2.length cq_, .int .i64 now, .slice A3 lsl_3.length cs, .slice A4 lsl_4.length cm]) hF hM (by kernel_rfl) rfl rfl (by kernel_rfl) (by kernel_rfl) fun a w hF hM => ?_)
      refine wl (eM 40 (v := .bool true) hF hM (by kernel_rfl) (Yld.to (yld_call (f := 11) (args := #[.agg #[.slice A lsl.length ca, .slice A2 lsl_2.length cq_, .int .i64 now, .slice A3 lsl_3.length cs, .slice A4 lsl_4.length cm]]) hF (by kernel_rfl) (fun _ => by kernel_rfl) (fun w hM => rRight33_x A lsl ca A2 lsl_2 cq_ now A3 lsl_3 cs A4 lsl_4 cm w (hM.ok 9 _ rfl) hW_lsl (hM.ok 10 _ rfl) hW_lsl_2 (hM.ok 11 _ rfl) (hM.ok 12 _ rfl) hW_lsl_4 rfl rfl rfl rfl)) (congrArg Value.bool hfr)) fun a w hF hM => ?_)
      refine sB 1 [(41, .bool false)] hF (by kernel_rfl) fun a hF => ?_
      refine wpList_nil ?_
      refine hK99 _ _ ?_
      refine cF hF (by kernel_rfl) (by kernel_rfl) ?_
      refine wp_skip ?_
      refine hK98 _ _ ?_
      refine wp_seq_k fun K100 hK100 => ?_
      refine wp_region_lit ?_
      refine wl (eL 61 6 0 (v := .agg #[.int .i64 i1, .int .i64 i2, .int .i64 i3, .int .i64 i4, .int .i64 i5]) hF hM (by kernel_rfl) rfl rfl (by kernel_rfl) (by kernel_rfl) fun a w hF hM => ?_)
      refine wl (eM 62 (v := .bool true) hF hM (by kernel_rfl) (Yld.to (yld_call (f := 18) (args := #[.agg #[.int .i64 i1, .int .i64 i2, .int .i64 i3, .int .i64 i4, .int .i64 i5]]) hF (by kernel_rfl) (fun _ => by kernel_rfl) (fun w hM => rItem33_w i1 i2 i3 i4 i5 w)) (congrArg Value.bool hz2)) fun a w hF hM => ?_)
      refine sB 1 [(15, .bool true)] hF (by kernel_rfl) fun a hF => ?_
      refine wpList_nil ?_
      refine hK100 _ _ ?_
      refine wp_seq_k fun K101 hK101 => ?_
      refine wp_seq_k fun K102 hK102 => ?_
      refine wp_region_lit ?_
      refine sB 3 [(63, .bool true), (64, .bool true), (65, .int .i64 (regI port i1 i3 lsl))] hF (by kernel_rfl) fun a hF => ?_
      refine wl (eL 66 13 0 (v := .agg #[.slice A lsl.length ca, .slice A2 lsl_2.length cq_, .int .i64 now, .slice A3 lsl_3.length cs, .slice A4 lsl_4.length cm]) hF hM (by kernel_rfl) rfl rfl (by kernel_rfl) (by kernel_rfl) fun a w hF hM => ?_)
      refine sB 1 [(67, .int .i64 port)] hF (by kernel_rfl) fun a hF => ?_
      refine wl (eL 68 6 0 (v := .agg #[.int .i64 i1, .int .i64 i2, .int .i64 i3, .int .i64 i4, .int .i64 i5]) hF hM (by kernel_rfl) rfl rfl (by kernel_rfl) (by kernel_rfl) fun a w hF hM => ?_)
      refine wl (eM 69 (v := .int .i64 (regI port i1 i3 lsl)) hF hM (by kernel_rfl) (yld_call (f := 19) (args := #[.agg #[.slice A lsl.length ca, .slice A2 lsl_2.length cq_, .int .i64 now, .slice A3 lsl_3.length cs, .slice A4 lsl_4.length cm], .int .i64 port, .agg #[.int .i64 i1, .int .i64 i2, .int .i64 i3, .int .i64 i4, .int .i64 i5]]) hF (by kernel_rfl) (fun _ => by kernel_rfl) (fun w hM => rFind33_w A lsl ca A2 lsl_2 cq_ now A3 lsl_3 cs A4 lsl_4 cm port i1 i2 i3 i4 i5 w (hM.ok 9 _ rfl) hW_lsl (hM.ok 10 _ rfl) hW_lsl_2 (hM.ok 11 _ rfl) (hM.ok 12 _ rfl) hW_lsl_4 (fl_len (fl_p hz1)).1)) fun a w hF hM => ?_)
      refine wl (eP 70 (v0 := .bool (!decide (regI port i1 i3 lsl = regI port i1 i3 lsl))) (v := .bool false) hF (by kernel_rfl) (fun _ => by kernel_rfl) (nT (by omega)) fun a hF => ?_)
      refine sB 2 [(71, .bool false), (72, .int .i64 0)] hF (by kernel_rfl) fun a hF => ?_
      refine wl (eP 73 (v0 := .bool (!decide (0 = 0))) (v := .bool false) hF (by kernel_rfl) (fun _ => by kernel_rfl) (nT (by omega)) fun a hF => ?_)
      refine sB 14 [(74, .bool false), (75, .bool false), (76, .bool false), (77, .bool true), (78, .bool false), (79, .bool false), (80, undef), (81, undef), (82, undef), (83, undef), (84, undef), (85, undef), (86, .bool false), (87, .bool false)] hF (by kernel_rfl) fun a hF => ?_
      refine wpList_nil ?_
      refine hK102 _ _ ?_
      refine cF hF (by kernel_rfl) (by kernel_rfl) ?_
      refine wp_skip ?_
      refine hK101 _ _ ?_
      refine wp_seq_k fun K103 hK103 => ?_
      refine wp_region_lit ?_
      refine sB 1 [(16, .int .i64 0)] hF (by kernel_rfl) fun a hF => ?_
      refine wpList_nil ?_
      refine hK103 _ _ ?_
      refine wp_seq_k fun K104 hK104 => ?_
      refine wp_seq_k fun K105 hK105 => ?_
      refine wp_region_lit ?_
      refine sB 1 [(88, .int .i64 port)] hF (by kernel_rfl) fun a hF => ?_
      refine wl (eP 89 (v0 := .bool (decide (port < 0))) (v := .bool true) hF (by kernel_rfl) (fun _ => by kernel_rfl) (bT (by omega)) fun a hF => ?_)
      refine sB 4 [(90, .bool true), (91, undef), (92, undef), (93, .bool true)] hF (by kernel_rfl) fun a hF => ?_
      refine wpList_nil ?_
      refine hK105 _ _ ?_
      refine cT hF (by kernel_rfl) (by kernel_rfl) ?_
      refine wp_region_lit ?_
      refine sB 1 [(16, .int .i64 2)] hF (by kernel_rfl) fun a hF => ?_
      refine wpList_nil ?_
      refine hK104 _ _ ?_
      refine wp_seq_k fun K106 hK106 => ?_
      refine wp_seq_k fun K107 hK107 => ?_
      refine wp_region_lit ?_
      refine sB 1 [(104, .int .i64 2)] hF (by kernel_rfl) fun a hF => ?_
      refine wl (eP 105 (v0 := .bool (!decide (2 = 0))) (v := .bool true) hF (by kernel_rfl) (fun _ => by kernel_rfl) (nF (by omega)) fun a hF => ?_)
      refine wpList_nil ?_
      refine hK107 _ _ ?_
      refine cT hF (by kernel_rfl) (by kernel_rfl) ?_
      refine wp_seq_k fun K108 hK108 => ?_
      refine wp_region_lit ?_
      refine wl (eL 106 26 0 (v := .agg #[.slice none 0 0, .slice none 0 0, .int .i64 0, .slice none 0 0, .slice none 0 0]) hF hM (by kernel_rfl) rfl rfl (by kernel_rfl) (by kernel_rfl) fun a w hF hM => ?_)
      refine sB 1 [(107, .agg #[.slice none 0 0, .slice none 0 0, .int .i64 0, .slice none 0 0, .slice none 0 0])] hF (by kernel_rfl) fun a hF => ?_
      refine wl (eM 108 (v := .bool true) hF hM (by kernel_rfl) (yld_call (f := 15) (args := #[.agg #[.slice none 0 0, .slice none 0 0, .int .i64 0, .slice none 0 0, .slice none 0 0], .agg #[.slice none 0 0, .slice none 0 0, .int .i64 0, .slice none 0 0, .slice none 0 0]]) hF (by kernel_rfl) (fun _ => by kernel_rfl) (fun w hM => calls_bool (same_refl ([] : List (List Int)) ([] : List (List Int)) 0 ([] : List Int) ([] : List (List Int))) (same33_x none ([] : List (List Int)) 0 none ([] : List (List Int)) 0 0 none ([] : List Int) 0 none ([] : List (List Int)) 0 none ([] : List (List Int)) 0 none ([] : List (List Int)) 0 0 none ([] : List Int) 0 none ([] : List (List Int)) 0 w Ro.nil WR.nil Ro.nil WR.nil Ro.nil Ro.nil WR.nil Ro.nil WR.nil Ro.nil WR.nil Ro.nil Ro.nil WR.nil ⟨by first | omega | decide, by first | omega | decide, by first | omega | decide, by first | omega | decide⟩ rfl rfl rfl rfl rfl rfl rfl rfl))) fun a w hF hM => ?_)
      refine sB 2 [(109, .bool true), (110, .int .i64 0)] hF (by kernel_rfl) fun a hF => ?_
      refine wl (eP 111 (v0 := .bool (decide (0 = 0))) (v := .bool true) hF (by kernel_rfl) (fun _ => by kernel_rfl) (bT (by omega)) fun a hF => ?_)
      refine sB 4 [(112, .bool true), (113, .bool true), (114, .int .i64 2), (115, .int .i64 2)] hF (by kernel_rfl) fun a hF => ?_
      refine wl (eP 116 (v0 := .bool (decide (2 = 2))) (v := .bool true) hF (by kernel_rfl) (fun _ => by kernel_rfl) (bT (by omega)) fun a hF => ?_)
      refine sB 2 [(117, .bool true), (8, .bool true)] hF (by kernel_rfl) fun a hF => ?_
      refine wpList_nil ?_
      refine hK108 _ _ ?_
      refine wp_ret ?_
      refine hR0 _ _ ?_
      refine ret_of hF hM (.tmp rfl (.nil)) ?_
      exact ⟨rfl, hM.bel⟩
   ·skip
    refine wp_region_lit ?_
    refine wl (eL 24 13 0 (v := .agg #[.slice A lsl.length ca, .slice A2 lsl_2.length cq_, .int .i64 now, .slice A3 lsl_3.length cs, .slice A4 lsl_4.length cm]) hF hM (by kernel_rfl) rfl rfl (by kernel_rfl) (by kernel_rfl) fun a w hF hM => ?_)
    refine sB 1 [(25, .int .i64 port)] hF (by kernel_rfl) fun a hF => ?_
    refine wl (eL 26 6 0 (v := .agg #[.int .i64 i1, .int .i64 i2, .int .i64 i3, .int .i64 i4, .int .i64 i5]) hF hM (by kernel_rfl) rfl rfl (by kernel_rfl) (by kernel_rfl) fun a w hF hM => ?_)
    refine wl (eM 27 (v := .tuple #[.int .i64 0, .int .i64 430]) hF hM (by kernel_rfl) (yld_call (f := 16) (args := #[.agg #[.slice A lsl.length ca, .slice A2 lsl_2.length cq_, .int .i64 now, .slice A3 lsl_3.length cs, .slice A4 lsl_4.length cm], .int .i64 port, .agg #[.int .i64 i1, .int .i64 i2, .int .i64 i3, .int .i64 i4, .int .i64 i5]]) hF (by kernel_rfl) (fun _ => by kernel_rfl) (fun w hM => calls_val (fn_430 hz1) (fiFind_x A lsl ca A2 lsl_2 cq_ now A3 lsl_3 cs A4 lsl_4 cm port i1 i2 i3 i4 i5 w (hM.ok 9 _ rfl) hW_lsl (hM.ok 10 _ rfl) hW_lsl_2 (hM.ok 11 _ rfl) (hM.ok 12 _ rfl) hW_lsl_4 rfl rfl rfl rfl))) fun a w hF hM => ?_)
    refine sB 5 [(23, .tuple #[.int .i64 0, .int .i64 430]), (28, .int .i64 0), (29, .int .i64 430), (10, .int .i64 0), (11, .int .i64 430)] hF (by kernel_rfl) fun a hF => ?_
    refine wpList_nil ?_
    refine hK10 _ _ ?_
    refine wp_seq_k fun K109 hK109 => ?_
    refine wp_region_lit ?_
    refine wl (eL 31 13 0 (v := .agg #[.slice A lsl.length ca, .slice A2 lsl_2.length cq_, .int .i64 now, .slice A3 lsl_3.length cs, .slice A4 lsl_4.length cm]) hF hM (by kernel_rfl) rfl rfl (by kernel_rfl) (by kernel_rfl) fun a w hF hM => ?_)
    refine sB 1 [(32, .int .i64 port)] hF (by kernel_rfl) fun a hF => ?_
    refine wl (eL 33 6 0 (v := .agg #[.int .i64 i1, .int .i64 i2, .int .i64 i3, .int .i64 i4, .int .i64 i5]) hF hM (by kernel_rfl) rfl rfl (by kernel_rfl) (by kernel_rfl) fun a w hF hM => ?_)
    refine sB 1 [(34, .int .i64 t)] hF (by kernel_rfl) fun a hF => ?_
    refine wl (eM 35 (v := .tuple #[.agg #[.slice none 0 0, .slice none 0 0, .int .i64 0, .slice none 0 0, .slice none 0 0], .int .i64 0, .int .i64 430]) hF hM (by kernel_rfl) (yld_call (f := 17) (args := #[.agg #[.slice A lsl.length ca, .slice A2 lsl_2.length cq_, .int .i64 now, .slice A3 lsl_3.length cs, .slice A4 lsl_4.length cm], .int .i64 port, .agg #[.int .i64 i1, .int .i64 i2, .int .i64 i3, .int .i64 i4, .int .i64 i5], .int .i64 t]) hF (by kernel_rfl) (fun _ => by kernel_rfl) (fun w hM => ps_err (ps_430 hz1) (by decide) (fun q => fiPass_no A lsl ca A2 lsl_2 cq_ now A3 lsl_3 cs A4 lsl_4 cm port i1 i2 i3 i4 i5 t w (hM.ok 9 _ rfl) hW_lsl (hM.ok 10 _ rfl) hW_lsl_2 (hM.ok 11 _ rfl) (hM.ok 12 _ rfl) hW_lsl_4 q))) fun a w hF hM => ?_)
    refine sB 4 [(30, .tuple #[.agg #[.slice none 0 0, .slice none 0 0, .int .i64 0, .slice none 0 0, .slice none 0 0], .int .i64 0, .int .i64 430]), (36, .agg #[.slice none 0 0, .slice none 0 0, .int .i64 0, .slice none 0 0, .slice none 0 0]), (37, .int .i64 0), (38, .int .i64 430)] hF (by kernel_rfl) fun a hF => ?_
    refine wl (eN 12 27 (t := 27) (fun b => .pointer (some ⟨b, 0, none⟩)) #[.slice none 0 0, .slice none 0 0, .int .i64 0, .slice none 0 0, .slice none 0 0] hF hM (by kernel_rfl) (fun _ => by kernel_rfl) fun bb19 a w hF hM => ?_)
    refine wl (sStore (i := 27) (off := 0) (cs' := #[.slice none 0 0, .slice none 0 0, .int .i64 0, .slice none 0 0, .slice none 0 0]) hF hM (by kernel_rfl) rfl rfl (by kernel_rfl) (by kernel_rfl) rfl (by kernel_rfl) fun w hM => ?_)
    refine sB 2 [(13, .int .i64 0), (14, .int .i64 430)] hF (by kernel_rfl) fun a hF => ?_
    refine wpList_nil ?_
    refine hK109 _ _ ?_
    refine wp_seq_k fun K110 hK110 => ?_
    refine wp_seq_k fun K111 hK111 => ?_
    have hfr := flB_no hz1
    have h43 := fl_case hz1
    refine wp_region_lit ?_
    refine wl (eL 39 13 0 (v := .agg #[.slice A lsl.length ca, .slice A2 lsl_2.length cq_, .int .i64 now, .slice A3 lsl_3.length cs, .slice A4 lsl_4.length cm]) hF hM (by kernel_rfl) rfl rfl (by kernel_rfl) (by kernel_rfl) fun a w hF hM => ?_)
    refine wl (eM 40 (v := .bool false) hF hM (by kernel_rfl) (Yld.to (yld_call (f := 11) (args := #[.agg #[.slice A lsl.length ca, .slice A2 lsl_2.length cq_, .int .i64 now, .slice A3 lsl_3.length cs, .slice A4 lsl_4.length cm]]) hF (by kernel_rfl) (fun _ => by kernel_rfl) (fun w hM => rRight33_x A lsl ca A2 lsl_2 cq_ now A3 lsl_3 cs A4 lsl_4 cm w (hM.ok 9 _ rfl) hW_lsl (hM.ok 10 _ rfl) hW_lsl_2 (hM.ok 11 _ rfl) (hM.ok 12 _ rfl) hW_lsl_4 rfl rfl rfl rfl)) (congrArg Value.bool hfr)) fun a w hF hM => ?_)
    refine sB 1 [(41, .bool true)] hF (by kernel_rfl) fun a hF => ?_
    refine wpList_nil ?_
    refine hK111 _ _ ?_
    refine cT hF (by kernel_rfl) (by kernel_rfl) ?_
    refine wp_seq_k fun K112 hK112 => ?_
    refine wp_region_lit ?_
    refine sB 1 [(42, .int .i64 0)] hF (by kernel_rfl) fun a hF => ?_
    refine wl (eP 43 (v0 := .bool (decide (0 = 0))) (v := .bool true) hF (by kernel_rfl) (fun _ => by kernel_rfl) (bT (by omega)) fun a hF => ?_)
    refine sB 2 [(44, .bool true), (45, .int .i64 430)] hF (by kernel_rfl) fun a hF => ?_
    refine wl (eP 46 (v0 := .bool (decide (430 = 430))) (v := .bool true) hF (by kernel_rfl) (fun _ => by kernel_rfl) (bT (by omega)) fun a hF => ?_)
    refine sB 2 [(47, .bool true), (48, .bool true)] hF (by kernel_rfl) fun a hF => ?_
    refine wl (eL 49 27 0 (v := .agg #[.slice none 0 0, .slice none 0 0, .int .i64 0, .slice none 0 0, .slice none 0 0]) hF hM (by kernel_rfl) rfl rfl (by kernel_rfl) (by kernel_rfl) fun a w hF hM => ?_)
    refine sB 1 [(50, .agg #[.slice none 0 0, .slice none 0 0, .int .i64 0, .slice none 0 0, .slice none 0 0])] hF (by kernel_rfl) fun a hF => ?_
    refine wl (eM 51 (v := .bool true) hF hM (by kernel_rfl) (yld_call (f := 15) (args := #[.agg #[.slice none 0 0, .slice none 0 0, .int .i64 0, .slice none 0 0, .slice none 0 0], .agg #[.slice none 0 0, .slice none 0 0, .int .i64 0, .slice none 0 0, .slice none 0 0]]) hF (by kernel_rfl) (fun _ => by kernel_rfl) (fun w hM => calls_bool (same_refl ([] : List (List Int)) ([] : List (List Int)) 0 ([] : List Int) ([] : List (List Int))) (same33_x none ([] : List (List Int)) 0 none ([] : List (List Int)) 0 0 none ([] : List Int) 0 none ([] : List (List Int)) 0 none ([] : List (List Int)) 0 none ([] : List (List Int)) 0 0 none ([] : List Int) 0 none ([] : List (List Int)) 0 w Ro.nil WR.nil Ro.nil WR.nil Ro.nil Ro.nil WR.nil Ro.nil WR.nil Ro.nil WR.nil Ro.nil Ro.nil WR.nil ⟨by first | omega | decide, by first | omega | decide, by first | omega | decide, by first | omega | decide⟩ rfl rfl rfl rfl rfl rfl rfl rfl))) fun a w hF hM => ?_)
    refine sB 3 [(52, .bool true), (53, .bool true), (54, .int .i64 0)] hF (by kernel_rfl) fun a hF => ?_
    refine wl (eP 55 (v0 := .bool (decide (0 = 0))) (v := .bool true) hF (by kernel_rfl) (fun _ => by kernel_rfl) (bT (by omega)) fun a hF => ?_)
    refine sB 3 [(56, .bool true), (57, .bool true), (58, .int .i64 430)] hF (by kernel_rfl) fun a hF => ?_
    refine wl (eP 59 (v0 := .bool (decide (430 = 430))) (v := .bool true) hF (by kernel_rfl) (fun _ => by kernel_rfl) (bT (by omega)) fun a hF => ?_)
    refine sB 2 [(60, .bool true), (8, .bool true)] hF (by kernel_rfl) fun a hF => ?_
    refine wpList_nil ?_
    refine hK112 _ _ ?_
    refine wp_ret ?_
    refine hR0 _ _ ?_
    refine ret_of hF hM (.tmp rfl (.nil)) ?_
    exact ⟨rfl, hM.bel⟩

end Go.Proofs.Ytogeficooemngaa
