/-
  Check and New of the filter.
-/
import Derived.Test.YtogeficooemngaaFiR
import Derived.Test.YtogeficooemngaaFiL
import Derived.Test.YtogeficooemngaaOpenRec
namespace Go.Proofs.Ytogeficooemngaa
open Go.RowKit
set_option linter.unusedVariables false
set_option linter.unusedSimpArgs false

set_option maxRecDepth 100000 in
set_option maxHeartbeats 40000000 in
theorem filterChecks_walk (A : Option Addr) (la : List (List Int)) (ca : Nat) (A2 : Option Addr) (lq : List (List Int)) (cq_ : Nat) (now : Int) (A3 : Option Addr) (ls : List Int) (cs : Nat) (A4 : Option Addr) (lm : List (List Int)) (cm : Nat) (w0 : World) (hA : Ro w0 A (flatR la)) (hW : WR 7 la) (hA2 : Ro w0 A2 (flatR lq)) (hW2 : WR 5 lq) (hA3 : Ro w0 A3 (ls.map (Value.int .i64))) (hA4 : Ro w0 A4 (flatR lm)) (hW4 : WR 3 lm) (hc : (la.length ≤ ca ∧ ca ≤ 9223372036854775807) ∧ (lq.length ≤ cq_ ∧ cq_ ≤ 9223372036854775807) ∧ (ls.length ≤ cs ∧ cs ≤ 9223372036854775807) ∧ lm.length ≤ cm ∧ cm ≤ 9223372036854775807) (hn3 : A3 = none → ls.length = 0 ∧ cs = 0) (hn4 : A4 = none → lm.length = 0 ∧ cm = 0) :
    Calls Try.prog 3 #[.agg #[.slice A la.length ca, .slice A2 lq.length cq_, .int .i64 now, .slice A3 ls.length cs, .slice A4 lm.length cm]] w0 (Ret w0 (.bool true)) := by
 refine enterK 67 Try.func3 rfl rfl rfl ?_
 intro a hF Q0 hR0 hN0
 have hM := Mem.start w0
 replace hM := hM.addOld 1 hA (Nat.le_refl _)
 replace hM := hM.addOld 2 hA2 (Nat.le_refl _)
 replace hM := hM.addOld 3 hA3 (Nat.le_refl _)
 replace hM := hM.addOld 4 hA4 (Nat.le_refl _)
 refine wp_seq_k fun K1 hK1 => ?_
 refine wp_region_lit ?_
 refine wl (eN 1 5 (t := 27) (fun b => .pointer (some ⟨b, 0, none⟩)) #[.slice A la.length ca, .slice A2 lq.length cq_, .int .i64 now, .slice A3 ls.length cs, .slice A4 lm.length cm] hF hM (by kernel_rfl) (fun _ => by kernel_rfl) fun bb1 a w hF hM => ?_)
 refine sB 1 [(2, .bool false)] hF (by kernel_rfl) fun a hF => ?_
 refine wpList_nil ?_
 refine hK1 _ _ ?_
 refine wp_seq_k fun K2 hK2 => ?_
 refine wp_seq_k fun K3 hK3 => ?_
 refine wp_region_lit ?_
 refine wl (eM 10 (v := .bool true) hF hM (by kernel_rfl) (yld_call (f := 9) (args := #[]) hF (by kernel_rfl) (fun _ => by kernel_rfl) (fun w hM => wakes_w w)) fun a w hF hM => ?_)
 refine sB 1 [(11, .bool false)] hF (by kernel_rfl) fun a hF => ?_
 refine wpList_nil ?_
 refine hK3 _ _ ?_
 refine cF hF (by kernel_rfl) (by kernel_rfl) ?_
 refine wp_skip ?_
 refine hK2 _ _ ?_
 refine wp_seq_k fun K4 hK4 => ?_
 refine wp_region_lit ?_
 refine wl (eL 12 5 0 (v := .agg #[.slice A la.length ca, .slice A2 lq.length cq_, .int .i64 now, .slice A3 ls.length cs, .slice A4 lm.length cm]) hF hM (by kernel_rfl) rfl rfl (by kernel_rfl) (by kernel_rfl) fun a w hF hM => ?_)
 refine wl (sC (f := 10) (args := #[.agg #[.slice A la.length ca, .slice A2 lq.length cq_, .int .i64 now, .slice A3 ls.length cs, .slice A4 lm.length cm]]) hF (by kernel_rfl) rfl (by decide) (by kernel_rfl) (fun _ => by kernel_rfl) ?_)
 refine enterK 36 Try.func10 rfl rfl rfl ?_
 intro a1 hF1 QR5 hR5 hNR5
 refine wp_seq_k fun K6 hK6 => ?_
 refine wp_region_lit ?_
 refine wl (eN 1 6 (t := 27) (fun b => .pointer (some ⟨b, 0, none⟩)) #[.slice A la.length ca, .slice A2 lq.length cq_, .int .i64 now, .slice A3 ls.length cs, .slice A4 lm.length cm] hF1 hM (by kernel_rfl) (fun _ => by kernel_rfl) fun bb2 a1 w hF1 hM => ?_)
 refine wl (eN 2 7 (t := 27) (fun b => .pointer (some ⟨b, 0, none⟩)) #[.slice none 0 0, .slice none 0 0, .int .i64 0, .slice none 0 0, .slice none 0 0] hF1 hM (by kernel_rfl) (fun _ => by kernel_rfl) fun bb3 a1 w hF1 hM => ?_)
 refine wpList_nil ?_
 refine hK6 _ _ ?_
 refine wp_seq_k fun K7 hK7 => ?_
 obtain ⟨lsl, e_lsl⟩ : ∃ x : List (List Int), x = la.take ((min (la.length : Int) 65).toNat) := ⟨_, rfl⟩
 have len_lsl : (lsl.length : Int) = min (la.length : Int) 65 := by rw [e_lsl, List.length_take]; omega
 have hW_lsl : WR 7 lsl := e_lsl ▸ WR.take hW
 replace hM := hM.roMore 8 1 (xs' := (flatR lsl)) rfl (by rw [e_lsl]; exact flatR_sub _ hW)
 obtain ⟨lsl_2, e_lsl_2⟩ : ∃ x : List (List Int), x = lq.take ((min (lq.length : Int) 65).toNat) := ⟨_, rfl⟩
 have len_lsl_2 : (lsl_2.length : Int) = min (lq.length : Int) 65 := by rw [e_lsl_2, List.length_take]; omega
 have hW_lsl_2 : WR 5 lsl_2 := e_lsl_2 ▸ WR.take hW2
 replace hM := hM.roMore 9 2 (xs' := (flatR lsl_2)) rfl (by rw [e_lsl_2]; exact flatR_sub _ hW2)
 refine rF (by kernel_rfl) (by kernel_rfl) (fun S a w => Fr 36 [(1, some (.pointer (some ⟨bb2, 0, none⟩))), (2, some (.pointer (some ⟨bb3, 0, none⟩))), (3, (cond (S.getD 0 false) (some (.pointer (some ⟨bb2, 0, none⟩))) none)), (4, (cond (S.getD 1 false) (some (.slice A la.length ca)) none)), (5, (cond (S.getD 2 false) (some (.pointer (some ⟨bb2, 0, none⟩))) none)), (6, (cond (S.getD 3 false) (some (.slice A la.length ca)) none)), (7, (cond (S.getD 4 false) (some (.int .i64 (la.length : Int))) none)), (8, (cond (S.getD 5 false) (some (.int .i64 (min (la.length : Int) 65))) none)), (9, (cond (S.getD 6 false) (some (.slice A lsl.length ca)) none)), (10, (cond (S.getD 7 false) (some (.pointer (some ⟨bb2, 1, none⟩))) none)), (11, (cond (S.getD 8 false) (some (.slice A2 lq.length cq_)) none)), (12, (cond (S.getD 9 false) (some (.pointer (some ⟨bb2, 1, none⟩))) none)), (13, (cond (S.getD 10 false) (some (.slice A2 lq.length cq_)) none)), (14, (cond (S.getD 11 false) (some (.int .i64 (lq.length : Int))) none)), (15, (cond (S.getD 12 false) (some (.int .i64 (min (lq.length : Int) 65))) none)), (16, (cond (S.getD 13 false) (some (.slice A2 lsl_2.length cq_)) none)), (17, (cond (S.getD 14 false) (some (.pointer (some ⟨bb2, 0, none⟩))) none)), (18, (cond (S.getD 16 false) (some (.pointer (some ⟨bb2, 1, none⟩))) none))] a ∧ Mem w0.heap.size w0 [(1, some (.ro A (flatR la))), (2, some (.ro A2 (flatR lq))), (3, some (.ro A3 (ls.map (Value.int .i64)))), (4, some (.ro A4 (flatR lm))), (5, some (.row bb1 27 #[.slice A la.length ca, .slice A2 lq.length cq_, .int .i64 now, .slice A3 ls.length cs, .slice A4 lm.length cm])), (6, (cond (S.getD 17 false) (some (.row bb2 27 #[.slice A lsl.length ca, .slice A2 lsl_2.length cq_, .int .i64 now, .slice A3 ls.length cs, .slice A4 lm.length cm])) (cond (S.getD 15 false) (some (.row bb2 27 #[.slice A lsl.length ca, .slice A2 lq.length cq_, .int .i64 now, .slice A3 ls.length cs, .slice A4 lm.length cm])) (some (.row bb2 27 #[.slice A la.length ca, .slice A2 lq.length cq_, .int .i64 now, .slice A3 ls.length cs, .slice A4 lm.length cm]))))), (7, some (.row bb3 27 #[.slice none 0 0, .slice none 0 0, .int .i64 0, .slice none 0 0, .slice none 0 0])), (8, some (.ro A (flatR lsl))), (9, some (.ro A2 (flatR lsl_2)))] w) ?_ ?_ ?_
 ·exact ⟨(((((((((((((((((((Fr.nil hF1).co hF1 (i := 18) (by kernel_rfl)).co hF1 (i := 17) (by kernel_rfl)).co hF1 (i := 16) (by kernel_rfl)).co hF1 (i := 15) (by kernel_rfl)).co hF1 (i := 14) (by kernel_rfl)).co hF1 (i := 13) (by kernel_rfl)).co hF1 (i := 12) (by kernel_rfl)).co hF1 (i := 11) (by kernel_rfl)).co hF1 (i := 10) (by kernel_rfl)).co hF1 (i := 9) (by kernel_rfl)).co hF1 (i := 8) (by kernel_rfl)).co hF1 (i := 7) (by kernel_rfl)).co hF1 (i := 6) (by kernel_rfl)).co hF1 (i := 5) (by kernel_rfl)).co hF1 (i := 4) (by kernel_rfl)).co hF1 (i := 3) (by kernel_rfl)).co hF1 (i := 2) (by kernel_rfl)).co hF1 (i := 1) (by kernel_rfl)), hM.drew.sub (((((((((Sub.nil.co (k := 9) (by kernel_rfl)).co (k := 8) (by kernel_rfl)).co (k := 7) (by kernel_rfl)).co (k := 6) (by kernel_rfl)).co (k := 5) (by kernel_rfl)).co (k := 4) (by kernel_rfl)).co (k := 3) (by kernel_rfl)).co (k := 2) (by kernel_rfl)).co (k := 1) (by kernel_rfl))⟩
 ·refine stC ?_ (stC ?_ (stC ?_ (stC ?_ (stC ?_ (stC ?_ (stC ?_ (stC ?_ (stC ?_ (stC ?_ (stC ?_ (stC ?_ (stC ?_ (stC ?_ (stC ?_ (stC ?_ (stC ?_ (stC ?_ (trivial))))))))))))))))))
  ·intro s0 s1 s2 s3 s4 s5 s6 s7 s8 s9 s10 s11 s12 s13 s14 s15 s16 s17 hc hi hp a w hS
   obtain rfl : s0 = false := hi
   obtain rfl : s15 = false := hc.f 15 0 (by kernel_rfl) rfl
   obtain rfl : s17 = false := hc.f 17 0 (by kernel_rfl) rfl
   obtain ⟨hF1, hM⟩ := hS
   refine eP 3 (v0 := .pointer (some ⟨bb2, 0, none⟩)) (v := .pointer (some ⟨bb2, 0, none⟩)) hF1 (by kernel_rfl) (fun _ => by kernel_rfl) rfl fun a1 hF1 => ?_
   exact ⟨((hF1.repl 2 (by kernel_rfl)).cast (by kernel_rfl)), (hM.cast (by kernel_rfl))⟩
  ·intro s0 s1 s2 s3 s4 s5 s6 s7 s8 s9 s10 s11 s12 s13 s14 s15 s16 s17 hc hi hp a w hS
   obtain rfl : s1 = false := hi
   obtain rfl : s0 = true := hp 0 (by kernel_rfl)
   obtain rfl : s15 = false := hc.f 15 1 (by kernel_rfl) rfl
   obtain rfl : s17 = false := hc.f 17 1 (by kernel_rfl) rfl
   obtain ⟨hF1, hM⟩ := hS
   refine eL 4 6 0 (v := .slice A la.length ca) hF1 hM (by kernel_rfl) rfl rfl (by kernel_rfl) (by kernel_rfl) fun a1 w hF1 hM => ?_
   exact ⟨((hF1.repl 3 (by kernel_rfl)).cast (by kernel_rfl)), (hM.cast (by kernel_rfl))⟩
  ·intro s0 s1 s2 s3 s4 s5 s6 s7 s8 s9 s10 s11 s12 s13 s14 s15 s16 s17 hc hi hp a w hS
   obtain rfl : s2 = false := hi
   obtain rfl : s15 = false := hc.f 15 2 (by kernel_rfl) rfl
   obtain rfl : s17 = false := hc.f 17 2 (by kernel_rfl) rfl
   obtain ⟨hF1, hM⟩ := hS
   refine eP 5 (v0 := .pointer (some ⟨bb2, 0, none⟩)) (v := .pointer (some ⟨bb2, 0, none⟩)) hF1 (by kernel_rfl) (fun _ => by kernel_rfl) rfl fun a1 hF1 => ?_
   exact ⟨((hF1.repl 4 (by kernel_rfl)).cast (by kernel_rfl)), (hM.cast (by kernel_rfl))⟩
  ·intro s0 s1 s2 s3 s4 s5 s6 s7 s8 s9 s10 s11 s12 s13 s14 s15 s16 s17 hc hi hp a w hS
   obtain rfl : s3 = false := hi
   obtain rfl : s2 = true := hp 2 (by kernel_rfl)
   obtain rfl : s15 = false := hc.f 15 3 (by kernel_rfl) rfl
   obtain rfl : s17 = false := hc.f 17 3 (by kernel_rfl) rfl
   obtain ⟨hF1, hM⟩ := hS
   refine eL 6 6 0 (v := .slice A la.length ca) hF1 hM (by kernel_rfl) rfl rfl (by kernel_rfl) (by kernel_rfl) fun a1 w hF1 hM => ?_
   exact ⟨((hF1.repl 5 (by kernel_rfl)).cast (by kernel_rfl)), (hM.cast (by kernel_rfl))⟩
  ·intro s0 s1 s2 s3 s4 s5 s6 s7 s8 s9 s10 s11 s12 s13 s14 s15 s16 s17 hc hi hp a w hS
   obtain rfl : s4 = false := hi
   obtain rfl : s3 = true := hp 3 (by kernel_rfl)
   obtain ⟨hF1, hM⟩ := hS
   refine eP 7 (v0 := .int .i64 (la.length : Int)) (v := .int .i64 (la.length : Int)) hF1 (by kernel_rfl) (fun _ => by kernel_rfl) rfl fun a1 hF1 => ?_
   exact ⟨((hF1.repl 6 (by kernel_rfl)).cast (by kernel_rfl)), (hM.cast (by kernel_rfl))⟩
  ·intro s0 s1 s2 s3 s4 s5 s6 s7 s8 s9 s10 s11 s12 s13 s14 s15 s16 s17 hc hi hp a w hS
   obtain rfl : s5 = false := hi
   obtain rfl : s4 = true := hp 4 (by kernel_rfl)
   obtain ⟨hF1, hM⟩ := hS
   refine eP 8 (v0 := .int .i64 (if 65 < (la.length : Int) then 65 else (la.length : Int))) (v := .int .i64 (min (la.length : Int) 65)) hF1 (by kernel_rfl) (fun _ => by kernel_rfl) (vi (min_if _ _)) fun a1 hF1 => ?_
   exact ⟨((hF1.repl 7 (by kernel_rfl)).cast (by kernel_rfl)), (hM.cast (by kernel_rfl))⟩
  ·intro s0 s1 s2 s3 s4 s5 s6 s7 s8 s9 s10 s11 s12 s13 s14 s15 s16 s17 hc hi hp a w hS
   obtain rfl : s6 = false := hi
   obtain rfl : s5 = true := hp 5 (by kernel_rfl)
   obtain rfl : s1 = true := hp 1 (by kernel_rfl)
   obtain ⟨hF1, hM⟩ := hS
   refine eM 9 (v := .slice A lsl.length ca) hF1 hM (by kernel_rfl) (yld_slice0 (e := 57) (len := la.length) (cap := ca) (m := lsl.length) (A := A) (i := min (la.length : Int) 65) hF1 rfl (by kernel_rfl) (by kernel_rfl) (by kernel_rfl) (by kernel_rfl) (by kernel_rfl) (by omega) (by omega)) fun a1 w hF1 hM => ?_
   exact ⟨((hF1.repl 8 (by kernel_rfl)).cast (by kernel_rfl)), (hM.cast (by kernel_rfl))⟩
  ·intro s0 s1 s2 s3 s4 s5 s6 s7 s8 s9 s10 s11 s12 s13 s14 s15 s16 s17 hc hi hp a w hS
   obtain rfl : s7 = false := hi
   obtain rfl : s15 = false := hc.f 15 7 (by kernel_rfl) rfl
   obtain rfl : s17 = false := hc.f 17 7 (by kernel_rfl) rfl
   obtain ⟨hF1, hM⟩ := hS
   refine eP 10 (v0 := .pointer (some ⟨bb2, 1, none⟩)) (v := .pointer (some ⟨bb2, 1, none⟩)) hF1 (by kernel_rfl) (fun _ => by kernel_rfl) rfl fun a1 hF1 => ?_
   exact ⟨((hF1.repl 9 (by kernel_rfl)).cast (by kernel_rfl)), (hM.cast (by kernel_rfl))⟩
  ·intro s0 s1 s2 s3 s4 s5 s6 s7 s8 s9 s10 s11 s12 s13 s14 s15 s16 s17 hc hi hp a w hS
   obtain rfl : s8 = false := hi
   obtain rfl : s7 = true := hp 7 (by kernel_rfl)
   obtain rfl : s15 = false := hc.f 15 8 (by kernel_rfl) rfl
   obtain rfl : s17 = false := hc.f 17 8 (by kernel_rfl) rfl
   obtain ⟨hF1, hM⟩ := hS
   refine eL 11 6 1 (v := .slice A2 lq.length cq_) hF1 hM (by kernel_rfl) rfl rfl (by kernel_rfl) (by kernel_rfl) fun a1 w hF1 hM => ?_
   exact ⟨((hF1.repl 10 (by kernel_rfl)).cast (by kernel_rfl)), (hM.cast (by kernel_rfl))⟩
  ·intro s0 s1 s2 s3 s4 s5 s6 s7 s8 s9 s10 s11 s12 s13 s14 s15 s16 s17 hc hi hp a w hS
   obtain rfl : s9 = false := hi
   obtain rfl : s15 = false := hc.f 15 9 (by kernel_rfl) rfl
   obtain rfl : s17 = false := hc.f 17 9 (by kernel_rfl) rfl
   obtain ⟨hF1, hM⟩ := hS
   refine eP 12 (v0 := .pointer (some ⟨bb2, 1, none⟩)) (v := .pointer (some ⟨bb2, 1, none⟩)) hF1 (by kernel_rfl) (fun _ => by kernel_rfl) rfl fun a1 hF1 => ?_
   exact ⟨((hF1.repl 11 (by kernel_rfl)).cast (by kernel_rfl)), (hM.cast (by kernel_rfl))⟩
  ·intro s0 s1 s2 s3 s4 s5 s6 s7 s8 s9 s10 s11 s12 s13 s14 s15 s16 s17 hc hi hp a w hS
   obtain rfl : s10 = false := hi
   obtain rfl : s9 = true := hp 9 (by kernel_rfl)
   obtain rfl : s15 = false := hc.f 15 10 (by kernel_rfl) rfl
   obtain rfl : s17 = false := hc.f 17 10 (by kernel_rfl) rfl
   obtain ⟨hF1, hM⟩ := hS
   refine eL 13 6 1 (v := .slice A2 lq.length cq_) hF1 hM (by kernel_rfl) rfl rfl (by kernel_rfl) (by kernel_rfl) fun a1 w hF1 hM => ?_
   exact ⟨((hF1.repl 12 (by kernel_rfl)).cast (by kernel_rfl)), (hM.cast (by kernel_rfl))⟩
  ·intro s0 s1 s2 s3 s4 s5 s6 s7 s8 s9 s10 s11 s12 s13 s14 s15 s16 s17 hc hi hp a w hS
   obtain rfl : s11 = false := hi
   obtain rfl : s10 = true := hp 10 (by kernel_rfl)
   obtain ⟨hF1, hM⟩ := hS
   refine eP 14 (v0 := .int .i64 (lq.length : Int)) (v := .int .i64 (lq.length : Int)) hF1 (by kernel_rfl) (fun _ => by kernel_rfl) rfl fun a1 hF1 => ?_
   exact ⟨((hF1.repl 13 (by kernel_rfl)).cast (by kernel_rfl)), (hM.cast (by kernel_rfl))⟩
  ·intro s0 s1 s2 s3 s4 s5 s6 s7 s8 s9 s10 s11 s12 s13 s14 s15 s16 s17 hc hi hp a w hS
   obtain rfl : s12 = false := hi
   obtain rfl : s11 = true := hp 11 (by kernel_rfl)
   obtain ⟨hF1, hM⟩ := hS
   refine eP 15 (v0 := .int .i64 (if 65 < (lq.length : Int) then 65 else (lq.length : Int))) (v := .int .i64 (min (lq.length : Int) 65)) hF1 (by kernel_rfl) (fun _ => by kernel_rfl) (vi (min_if _ _)) fun a1 hF1 => ?_
   exact ⟨((hF1.repl 14 (by kernel_rfl)).cast (by kernel_rfl)), (hM.cast (by kernel_rfl))⟩
  ·intro s0 s1 s2 s3 s4 s5 s6 s7 s8 s9 s10 s11 s12 s13 s14 s15 s16 s17 hc hi hp a w hS
   obtain rfl : s13 = false := hi
   obtain rfl : s12 = true := hp 12 (by kernel_rfl)
   obtain rfl : s8 = true := hp 8 (by kernel_rfl)
   obtain ⟨hF1, hM⟩ := hS
   refine eM 16 (v := .slice A2 lsl_2.length cq_) hF1 hM (by kernel_rfl) (yld_slice0 (e := 69) (len := lq.length) (cap := cq_) (m := lsl_2.length) (A := A2) (i := min (lq.length : Int) 65) hF1 rfl (by kernel_rfl) (by kernel_rfl) (by kernel_rfl) (by kernel_rfl) (by kernel_rfl) (by omega) (by omega)) fun a1 w hF1 hM => ?_
   exact ⟨((hF1.repl 15 (by kernel_rfl)).cast (by kernel_rfl)), (hM.cast (by kernel_rfl))⟩
  ·intro s0 s1 s2 s3 s4 s5 s6 s7 s8 s9 s10 s11 s12 s13 s14 s15 s16 s17 hc hi hp a w hS
   obtain rfl : s14 = false := hi
   obtain rfl : s15 = false := hc.f 15 14 (by kernel_rfl) rfl
   obtain rfl : s17 = false := hc.f 17 14 (by kernel_rfl) rfl
   obtain ⟨hF1, hM⟩ := hS
   refine eP 17 (v0 := .pointer (some ⟨bb2, 0, none⟩)) (v := .pointer (some ⟨bb2, 0, none⟩)) hF1 (by kernel_rfl) (fun _ => by kernel_rfl) rfl fun a1 hF1 => ?_
   exact ⟨((hF1.repl 16 (by kernel_rfl)).cast (by kernel_rfl)), (hM.cast (by kernel_rfl))⟩
  ·intro s0 s1 s2 s3 s4 s5 s6 s7 s8 s9 s10 s11 s12 s13 s14 s15 s16 s17 hc hi hp a w hS
   obtain rfl : s15 = false := hi
   obtain rfl : s14 = true := hp 14 (by kernel_rfl)
   obtain rfl : s6 = true := hp 6 (by kernel_rfl)
   obtain rfl : s17 = false := hc.f 17 15 (by kernel_rfl) rfl
   obtain ⟨hF1, hM⟩ := hS
   refine sStore (i := 6) (off := 0) (cs' := #[.slice A lsl.length ca, .slice A2 lq.length cq_, .int .i64 now, .slice A3 ls.length cs, .slice A4 lm.length cm]) hF1 hM (by kernel_rfl) rfl rfl (by kernel_rfl) (by kernel_rfl) rfl (by kernel_rfl) fun w hM => ?_
   exact ⟨(hF1.cast (by kernel_rfl)), ((hM.repl 5 (by kernel_rfl)).cast (by kernel_rfl))⟩
  ·intro s0 s1 s2 s3 s4 s5 s6 s7 s8 s9 s10 s11 s12 s13 s14 s15 s16 s17 hc hi hp a w hS
   obtain rfl : s16 = false := hi
   obtain rfl : s15 = true := hp 15 (by kernel_rfl)
   obtain rfl : s17 = false := hc.f 17 16 (by kernel_rfl) rfl
   obtain ⟨hF1, hM⟩ := hS
   refine eP 18 (v0 := .pointer (some ⟨bb2, 1, none⟩)) (v := .pointer (some ⟨bb2, 1, none⟩)) hF1 (by kernel_rfl) (fun _ => by kernel_rfl) rfl fun a1 hF1 => ?_
   exact ⟨((hF1.repl 17 (by kernel_rfl)).cast (by kernel_rfl)), (hM.cast (by kernel_rfl))⟩
  ·intro s0 s1 s2 s3 s4 s5 s6 s7 s8 s9 s10 s11 s12 s13 s14 s15 s16 s17 hc hi hp a w hS
   obtain rfl : s17 = false := hi
   obtain rfl : s16 = true := hp 16 (by kernel_rfl)
   obtain rfl : s15 = true := hp 15 (by kernel_rfl)
   obtain rfl : s13 = true := hp 13 (by kernel_rfl)
   obtain ⟨hF1, hM⟩ := hS
   refine sStore (i := 6) (off := 1) (cs' := #[.slice A lsl.length ca, .slice A2 lsl_2.length cq_, .int .i64 now, .slice A3 ls.length cs, .slice A4 lm.length cm]) hF1 hM (by kernel_rfl) rfl rfl (by kernel_rfl) (by kernel_rfl) rfl (by kernel_rfl) fun w hM => ?_
   exact ⟨(hF1.cast (by kernel_rfl)), ((hM.repl 5 (by kernel_rfl)).cast (by kernel_rfl))⟩
 ·intro a1 w hS
  obtain ⟨hF1, hM⟩ := hS
  replace hF1 : Fr 36 [(1, some (.pointer (some ⟨bb2, 0, none⟩))), (2, some (.pointer (some ⟨bb3, 0, none⟩))), (3, some (.pointer (some ⟨bb2, 0, none⟩))), (4, some (.slice A la.length ca)), (5, some (.pointer (some ⟨bb2, 0, none⟩))), (6, some (.slice A la.length ca)), (7, some (.int .i64 (la.length : Int))), (8, some (.int .i64 (min (la.length : Int) 65))), (9, some (.slice A lsl.length ca)), (10, some (.pointer (some ⟨bb2, 1, none⟩))), (11, some (.slice A2 lq.length cq_)), (12, some (.pointer (some ⟨bb2, 1, none⟩))), (13, some (.slice A2 lq.length cq_)), (14, some (.int .i64 (lq.length : Int))), (15, some (.int .i64 (min (lq.length : Int) 65))), (16, some (.slice A2 lsl_2.length cq_)), (17, some (.pointer (some ⟨bb2, 0, none⟩))), (18, some (.pointer (some ⟨bb2, 1, none⟩)))] a1 := hF1.cast (by kernel_rfl)
  replace hM : Mem w0.heap.size w0 [(1, some (.ro A (flatR la))), (2, some (.ro A2 (flatR lq))), (3, some (.ro A3 (ls.map (Value.int .i64)))), (4, some (.ro A4 (flatR lm))), (5, some (.row bb1 27 #[.slice A la.length ca, .slice A2 lq.length cq_, .int .i64 now, .slice A3 ls.length cs, .slice A4 lm.length cm])), (6, some (.row bb2 27 #[.slice A lsl.length ca, .slice A2 lsl_2.length cq_, .int .i64 now, .slice A3 ls.length cs, .slice A4 lm.length cm])), (7, some (.row bb3 27 #[.slice none 0 0, .slice none 0 0, .int .i64 0, .slice none 0 0, .slice none 0 0])), (8, some (.ro A (flatR lsl))), (9, some (.ro A2 (flatR lsl_2)))] w := hM.cast (by kernel_rfl)
  refine hK7 _ _ ?_
  refine wp_seq_k fun K8 hK8 => ?_
  obtain ⟨lsl_3, e_lsl_3⟩ : ∃ x : List Int, x = ls.take ((min (ls.length : Int) 65).toNat) := ⟨_, rfl⟩
  have len_lsl_3 : (lsl_3.length : Int) = min (ls.length : Int) 65 := by rw [e_lsl_3, List.length_take]; omega
  replace hM := hM.roMore 10 3 (xs' := (lsl_3.map (Value.int .i64))) rfl (by rw [e_lsl_3]; exact ints_sub _ _)
  obtain ⟨lsl_4, e_lsl_4⟩ : ∃ x : List (List Int), x = lm.take ((min (lm.length : Int) 65).toNat) := ⟨_, rfl⟩
  have len_lsl_4 : (lsl_4.length : Int) = min (lm.length : Int) 65 := by rw [e_lsl_4, List.length_take]; omega
  have hW_lsl_4 : WR 3 lsl_4 := e_lsl_4 ▸ WR.take hW4
  replace hM := hM.roMore 11 4 (xs' := (flatR lsl_4)) rfl (by rw [e_lsl_4]; exact flatR_sub _ hW4)
  refine rF (by kernel_rfl) (by kernel_rfl) (fun S a w => Fr 36 [(1, some (.pointer (some ⟨bb2, 0, none⟩))), (2, some (.pointer (some ⟨bb3, 0, none⟩))), (19, (cond (S.getD 0 false) (some (.pointer (some ⟨bb2, 3, none⟩))) none)), (20, (cond (S.getD 1 false) (some (.slice A3 ls.length cs)) none)), (21, (cond (S.getD 2 false) (some (.pointer (some ⟨bb2, 3, none⟩))) none)), (22, (cond (S.getD 3 false) (some (.slice A3 ls.length cs)) none)), (23, (cond (S.getD 4 false) (some (.int .i64 (ls.length : Int))) none)), (24, (cond (S.getD 5 false) (some (.int .i64 (min (ls.length : Int) 65))) none)), (25, (cond (S.getD 6 false) (some (.slice A3 lsl_3.length cs)) none)), (26, (cond (S.getD 7 false) (some (.pointer (some ⟨bb2, 4, none⟩))) none)), (27, (cond (S.getD 8 false) (some (.slice A4 lm.length cm)) none)), (28, (cond (S.getD 9 false) (some (.pointer (some ⟨bb2, 4, none⟩))) none)), (29, (cond (S.getD 10 false) (some (.slice A4 lm.length cm)) none)), (30, (cond (S.getD 11 false) (some (.int .i64 (lm.length : Int))) none)), (31, (cond (S.getD 12 false) (some (.int .i64 (min (lm.length : Int) 65))) none)), (32, (cond (S.getD 13 false) (some (.slice A4 lsl_4.length cm)) none)), (33, (cond (S.getD 14 false) (some (.pointer (some ⟨bb2, 3, none⟩))) none)), (34, (cond (S.getD 16 false) (some (.pointer (some ⟨bb2, 4, none⟩))) none))] a ∧ Mem w0.heap.size w0 [(1, some (.ro A (flatR la))), (2, some (.ro A2 (flatR lq))), (3, some (.ro A3 (ls.map (Value.int .i64)))), (4, some (.ro A4 (flatR lm))), (5, some (.row bb1 27 #[.slice A la.length ca, .slice A2 lq.length cq_, .int .i64 now, .slice A3 ls.length cs, .slice A4 lm.length cm])), (6, (cond (S.getD 17 false) (some (.row bb2 27 #[.slice A lsl.length ca, .slice A2 lsl_2.length cq_, .int .i64 now, .slice A3 lsl_3.length cs, .slice A4 lsl_4.length cm])) (cond (S.getD 15 false) (some (.row bb2 27 #[.slice A lsl.length ca, .slice A2 lsl_2.length cq_, .int .i64 now, .slice A3 lsl_3.length cs, .slice A4 lm.length cm])) (some (.row bb2 27 #[.slice A lsl.length ca, .slice A2 lsl_2.length cq_, .int .i64 now, .slice A3 ls.length cs, .slice A4 lm.length cm]))))), (7, some (.row bb3 27 #[.slice none 0 0, .slice none 0 0, .int .i64 0, .slice none 0 0, .slice none 0 0])), (8, some (.ro A (flatR lsl))), (9, some (.ro A2 (flatR lsl_2))), (10, some (.ro A3 (lsl_3.map (Value.int .i64)))), (11, some (.ro A4 (flatR lsl_4)))] w) ?_ ?_ ?_
  ·exact ⟨(((((((((((((((((((Fr.nil hF1).co hF1 (i := 34) (by kernel_rfl)).co hF1 (i := 33) (by kernel_rfl)).co hF1 (i := 32) (by kernel_rfl)).co hF1 (i := 31) (by kernel_rfl)).co hF1 (i := 30) (by kernel_rfl)).co hF1 (i := 29) (by kernel_rfl)).co hF1 (i := 28) (by kernel_rfl)).co hF1 (i := 27) (by kernel_rfl)).co hF1 (i := 26) (by kernel_rfl)).co hF1 (i := 25) (by kernel_rfl)).co hF1 (i := 24) (by kernel_rfl)).co hF1 (i := 23) (by kernel_rfl)).co hF1 (i := 22) (by kernel_rfl)).co hF1 (i := 21) (by kernel_rfl)).co hF1 (i := 20) (by kernel_rfl)).co hF1 (i := 19) (by kernel_rfl)).co hF1 (i := 2) (by kernel_rfl)).co hF1 (i := 1) (by kernel_rfl)), hM.drew.sub (((((((((((Sub.nil.co (k := 11) (by kernel_rfl)).co (k := 10) (by kernel_rfl)).co (k := 9) (by kernel_rfl)).co (k := 8) (by kernel_rfl)).co (k := 7) (by kernel_rfl)).co (k := 6) (by kernel_rfl)).co (k := 5) (by kernel_rfl)).co (k := 4) (by kernel_rfl)).co (k := 3) (by kernel_rfl)).co (k := 2) (by kernel_rfl)).co (k := 1) (by kernel_rfl))⟩
  ·refine stC ?_ (stC ?_ (stC ?_ (stC ?_ (stC ?_ (stC ?_ (stC ?_ (stC ?_ (stC ?_ (stC ?_ (stC ?_ (stC ?_ (stC ?_ (stC ?_ (stC ?_ (stC ?_ (stC ?_ (stC ?_ (trivial))))))))))))))))))
   ·intro s0 s1 s2 s3 s4 s5 s6 s7 s8 s9 s10 s11 s12 s13 s14 s15 s16 s17 hc hi hp a w hS
    obtain rfl : s0 = false := hi
    obtain rfl : s15 = false := hc.f 15 0 (by kernel_rfl) rfl
    obtain rfl : s17 = false := hc.f 17 0 (by kernel_rfl) rfl
    obtain ⟨hF1, hM⟩ := hS
    refine eP 19 (v0 := .pointer (some ⟨bb2, 3, none⟩)) (v := .pointer (some ⟨bb2, 3, none⟩)) hF1 (by kernel_rfl) (fun _ => by kernel_rfl) rfl fun a1 hF1 => ?_
    exact ⟨((hF1.repl 2 (by kernel_rfl)).cast (by kernel_rfl)), (hM.cast (by kernel_rfl))⟩
   ·intro s0 s1 s2 s3 s4 s5 s6 s7 s8 s9 s10 s11 s12 s13 s14 s15 s16 s17 hc hi hp a w hS
    obtain rfl : s1 = false := hi
    obtain rfl : s0 = true := hp 0 (by kernel_rfl)
    obtain rfl : s15 = false := hc.f 15 1 (by kernel_rfl) rfl
    obtain rfl : s17 = false := hc.f 17 1 (by kernel_rfl) rfl
    obtain ⟨hF1, hM⟩ := hS
    refine eL 20 6 3 (v := .slice A3 ls.length cs) hF1 hM (by kernel_rfl) rfl rfl (by kernel_rfl) (by kernel_rfl) fun a1 w hF1 hM => ?_
    exact ⟨((hF1.repl 3 (by kernel_rfl)).cast (by kernel_rfl)), (hM.cast (by kernel_rfl))⟩
   ·intro s0 s1 s2 s3 s4 s5 s6 s7 s8 s9 s10 s11 s12 s13 s14 s15 s16 s17 hc hi hp a w hS
    obtain rfl : s2 = false := hi
    obtain rfl : s15 = false := hc.f 15 2 (by kernel_rfl) rfl
    obtain rfl : s17 = false := hc.f 17 2 (by kernel_rfl) rfl
    obtain ⟨hF1, hM⟩ := hS
    refine eP 21 (v0 := .pointer (some ⟨bb2, 3, none⟩)) (v := .pointer (some ⟨bb2, 3, none⟩)) hF1 (by kernel_rfl) (fun _ => by kernel_rfl) rfl fun a1 hF1 => ?_
    exact ⟨((hF1.repl 4 (by kernel_rfl)).cast (by kernel_rfl)), (hM.cast (by kernel_rfl))⟩
   ·intro s0 s1 s2 s3 s4 s5 s6 s7 s8 s9 s10 s11 s12 s13 s14 s15 s16 s17 hc hi hp a w hS
    obtain rfl : s3 = false := hi
    obtain rfl : s2 = true := hp 2 (by kernel_rfl)
    obtain rfl : s15 = false := hc.f 15 3 (by kernel_rfl) rfl
    obtain rfl : s17 = false := hc.f 17 3 (by kernel_rfl) rfl
    obtain ⟨hF1, hM⟩ := hS
    refine eL 22 6 3 (v := .slice A3 ls.length cs) hF1 hM (by kernel_rfl) rfl rfl (by kernel_rfl) (by kernel_rfl) fun a1 w hF1 hM => ?_
    exact ⟨((hF1.repl 5 (by kernel_rfl)).cast (by kernel_rfl)), (hM.cast (by kernel_rfl))⟩
   ·intro s0 s1 s2 s3 s4 s5 s6 s7 s8 s9 s10 s11 s12 s13 s14 s15 s16 s17 hc hi hp a w hS
    obtain rfl : s4 = false := hi
    obtain rfl : s3 = true := hp 3 (by kernel_rfl)
    obtain ⟨hF1, hM⟩ := hS
    refine eP 23 (v0 := .int .i64 (ls.length : Int)) (v := .int .i64 (ls.length : Int)) hF1 (by kernel_rfl) (fun _ => by kernel_rfl) rfl fun a1 hF1 => ?_
    exact ⟨((hF1.repl 6 (by kernel_rfl)).cast (by kernel_rfl)), (hM.cast (by kernel_rfl))⟩
   ·intro s0 s1 s2 s3 s4 s5 s6 s7 s8 s9 s10 s11 s12 s13 s14 s15 s16 s17 hc hi hp a w hS
    obtain rfl : s5 = false := hi
    obtain rfl : s4 = true := hp 4 (by kernel_rfl)
    obtain ⟨hF1, hM⟩ := hS
    refine eP 24 (v0 := .int .i64 (if 65 < (ls.length : Int) then 65 else (ls.length : Int))) (v := .int .i64 (min (ls.length : Int) 65)) hF1 (by kernel_rfl) (fun _ => by kernel_rfl) (vi (min_if _ _)) fun a1 hF1 => ?_
    exact ⟨((hF1.repl 7 (by kernel_rfl)).cast (by kernel_rfl)), (hM.cast (by kernel_rfl))⟩
   ·intro s0 s1 s2 s3 s4 s5 s6 s7 s8 s9 s10 s11 s12 s13 s14 s15 s16 s17 hc hi hp a w hS
    obtain rfl : s6 = false := hi
    obtain rfl : s5 = true := hp 5 (by kernel_rfl)
    obtain rfl : s1 = true := hp 1 (by kernel_rfl)
    obtain ⟨hF1, hM⟩ := hS
    refine eM 25 (v := .slice A3 lsl_3.length cs) hF1 hM (by kernel_rfl) (yld_slice0 (e := 3) (len := ls.length) (cap := cs) (m := lsl_3.length) (A := A3) (i := min (ls.length : Int) 65) hF1 rfl (by kernel_rfl) (by kernel_rfl) (by kernel_rfl) (by kernel_rfl) (by kernel_rfl) (by omega) (by omega)) fun a1 w hF1 hM => ?_
    exact ⟨((hF1.repl 8 (by kernel_rfl)).cast (by kernel_rfl)), (hM.cast (by kernel_rfl))⟩
   ·intro s0 s1 s2 s3 s4 s5 s6 s7 s8 s9 s10 s11 s12 s13 s14 s15 s16 s17 hc hi hp a w hS
    obtain rfl : s7 = false := hi
    obtain rfl : s15 = false := hc.f 15 7 (by kernel_rfl) rfl
    obtain rfl : s17 = false := hc.f 17 7 (by kernel_rfl) rfl
    obtain ⟨hF1, hM⟩ := hS
    refine eP 26 (v0 := .pointer (some ⟨bb2, 4, none⟩)) (v := .pointer (some ⟨bb2, 4, none⟩)) hF1 (by kernel_rfl) (fun _ => by kernel_rfl) rfl fun a1 hF1 => ?_
    exact ⟨((hF1.repl 9 (by kernel_rfl)).cast (by kernel_rfl)), (hM.cast (by kernel_rfl))⟩
   ·intro s0 s1 s2 s3 s4 s5 s6 s7 s8 s9 s10 s11 s12 s13 s14 s15 s16 s17 hc hi hp a w hS
    obtain rfl : s8 = false := hi
    obtain rfl : s7 = true := hp 7 (by kernel_rfl)
    obtain rfl : s15 = false := hc.f 15 8 (by kernel_rfl) rfl
    obtain rfl : s17 = false := hc.f 17 8 (by kernel_rfl) rfl
    obtain ⟨hF1, hM⟩ := hS
    refine eL 27 6 4 (v := .slice A4 lm.length cm) hF1 hM (by kernel_rfl) rfl rfl (by kernel_rfl) (by kernel_rfl) fun a1 w hF1 hM => ?_
    exact ⟨((hF1.repl 10 (by kernel_rfl)).cast (by kernel_rfl)), (hM.cast (by kernel_rfl))⟩
   ·intro s0 s1 s2 s3 s4 s5 s6 s7 s8 s9 s10 s11 s12 s13 s14 s15 s16 s17 hc hi hp a w hS
    obtain rfl : s9 = false := hi
    obtain rfl : s15 = false := hc.f 15 9 (by kernel_rfl) rfl
    obtain rfl : s17 = false := hc.f 17 9 (by kernel_rfl) rfl
    obtain ⟨hF1, hM⟩ := hS
    refine eP 28 (v0 := .pointer (some ⟨bb2, 4, none⟩)) (v := .pointer (some ⟨bb2, 4, none⟩)) hF1 (by kernel_rfl) (fun _ => by kernel_rfl) rfl fun a1 hF1 => ?_
    exact ⟨((hF1.repl 11 (by kernel_rfl)).cast (by kernel_rfl)), (hM.cast (by kernel_rfl))⟩
   ·intro s0 s1 s2 s3 s4 s5 s6 s7 s8 s9 s10 s11 s12 s13 s14 s15 s16 s17 hc hi hp a w hS
    obtain rfl : s10 = false := hi
    obtain rfl : s9 = true := hp 9 (by kernel_rfl)
    obtain rfl : s15 = false := hc.f 15 10 (by kernel_rfl) rfl
    obtain rfl : s17 = false := hc.f 17 10 (by kernel_rfl) rfl
    obtain ⟨hF1, hM⟩ := hS
    refine eL 29 6 4 (v := .slice A4 lm.length cm) hF1 hM (by kernel_rfl) rfl rfl (by kernel_rfl) (by kernel_rfl) fun a1 w hF1 hM => ?_
    exact ⟨((hF1.repl 12 (by kernel_rfl)).cast (by kernel_rfl)), (hM.cast (by kernel_rfl))⟩
   ·intro s0 s1 s2 s3 s4 s5 s6 s7 s8 s9 s10 s11 s12 s13 s14 s15 s16 s17 hc hi hp a w hS
    obtain rfl : s11 = false := hi
    obtain rfl : s10 = true := hp 10 (by kernel_rfl)
    obtain ⟨hF1, hM⟩ := hS
    refine eP 30 (v0 := .int .i64 (lm.length : Int)) (v := .int .i64 (lm.length : Int)) hF1 (by kernel_rfl) (fun _ => by kernel_rfl) rfl fun a1 hF1 => ?_
    exact ⟨((hF1.repl 13 (by kernel_rfl)).cast (by kernel_rfl)), (hM.cast (by kernel_rfl))⟩
   ·intro s0 s1 s2 s3 s4 s5 s6 s7 s8 s9 s10 s11 s12 s13 s14 s15 s16 s17 hc hi hp a w hS
    obtain rfl : s12 = false := hi
    obtain rfl : s11 = true := hp 11 (by kernel_rfl)
    obtain ⟨hF1, hM⟩ := hS
    refine eP 31 (v0 := .int .i64 (if 65 < (lm.length : Int) then 65 else (lm.length : Int))) (v := .int .i64 (min (lm.length : Int) 65)) hF1 (by kernel_rfl) (fun _ => by kernel_rfl) (vi (min_if _ _)) fun a1 hF1 => ?_
    exact ⟨((hF1.repl 14 (by kernel_rfl)).cast (by kernel_rfl)), (hM.cast (by kernel_rfl))⟩
   ·intro s0 s1 s2 s3 s4 s5 s6 s7 s8 s9 s10 s11 s12 s13 s14 s15 s16 s17 hc hi hp a w hS
    obtain rfl : s13 = false := hi
    obtain rfl : s12 = true := hp 12 (by kernel_rfl)
    obtain rfl : s8 = true := hp 8 (by kernel_rfl)
    obtain ⟨hF1, hM⟩ := hS
    refine eM 32 (v := .slice A4 lsl_4.length cm) hF1 hM (by kernel_rfl) (yld_slice0 (e := 80) (len := lm.length) (cap := cm) (m := lsl_4.length) (A := A4) (i := min (lm.length : Int) 65) hF1 rfl (by kernel_rfl) (by kernel_rfl) (by kernel_rfl) (by kernel_rfl) (by kernel_rfl) (by omega) (by omega)) fun a1 w hF1 hM => ?_
    exact ⟨((hF1.repl 15 (by kernel_rfl)).cast (by kernel_rfl)), (hM.cast (by kernel_rfl))⟩
   ·intro s0 s1 s2 s3 s4 s5 s6 s7 s8 s9 s10 s11 s12 s13 s14 s15 s16 s17 hc hi hp a w hS
    obtain rfl : s14 = false := hi
    obtain rfl : s15 = false := hc.f 15 14 (by kernel_rfl) rfl
    obtain rfl : s17 = false := hc.f 17 14 (by kernel_rfl) rfl
    obtain ⟨hF1, hM⟩ := hS
    refine eP 33 (v0 := .pointer (some ⟨bb2, 3, none⟩)) (v := .pointer (some ⟨bb2, 3, none⟩)) hF1 (by kernel_rfl) (fun _ => by kernel_rfl) rfl fun a1 hF1 => ?_
    exact ⟨((hF1.repl 16 (by kernel_rfl)).cast (by kernel_rfl)), (hM.cast (by kernel_rfl))⟩
   ·intro s0 s1 s2 s3 s4 s5 s6 s7 s8 s9 s10 s11 s12 s13 s14 s15 s16 s17 hc hi hp a w hS
    obtain rfl : s15 = false := hi
    obtain rfl : s14 = true := hp 14 (by kernel_rfl)
    obtain rfl : s6 = true := hp 6 (by kernel_rfl)
    obtain rfl : s17 = false := hc.f 17 15 (by kernel_rfl) rfl
    obtain ⟨hF1, hM⟩ := hS
    refine sStore (i := 6) (off := 3) (cs' := #[.slice A lsl.length ca, .slice A2 lsl_2.length cq_, .int .i64 now, .slice A3 lsl_3.length cs, .slice A4 lm.length cm]) hF1 hM (by kernel_rfl) rfl rfl (by kernel_rfl) (by kernel_rfl) rfl (by kernel_rfl) fun w hM => ?_
    exact ⟨(hF1.cast (by kernel_rfl)), ((hM.repl 5 (by kernel_rfl)).cast (by kernel_rfl))⟩
   ·intro s0 s1 s2 s3 s4 s5 s6 s7 s8 s9 s10 s11 s12 s13 s14 s15 s16 s17 hc hi hp a w hS
    obtain rfl : s16 = false := hi
    obtain rfl : s15 = true := hp 15 (by kernel_rfl)
    obtain rfl : s17 = false := hc.f 17 16 (by kernel_rfl) rfl
    obtain ⟨hF1, hM⟩ := hS
    refine eP 34 (v0 := .pointer (some ⟨bb2, 4, none⟩)) (v := .pointer (some ⟨bb2, 4, none⟩)) hF1 (by kernel_rfl) (fun _ => by kernel_rfl) rfl fun a1 hF1 => ?_
    exact ⟨((hF1.repl 17 (by kernel_rfl)).cast (by kernel_rfl)), (hM.cast (by kernel_rfl))⟩
   ·intro s0 s1 s2 s3 s4 s5 s6 s7 s8 s9 s10 s11 s12 s13 s14 s15 s16 s17 hc hi hp a w hS
    obtain rfl : s17 = false := hi
    obtain rfl : s16 = true := hp 16 (by kernel_rfl)
    obtain rfl : s15 = true := hp 15 (by kernel_rfl)
    obtain rfl : s13 = true := hp 13 (by kernel_rfl)
    obtain ⟨hF1, hM⟩ := hS
    refine sStore (i := 6) (off := 4) (cs' := #[.slice A lsl.length ca, .slice A2 lsl_2.length cq_, .int .i64 now, .slice A3 lsl_3.length cs, .slice A4 lsl_4.length cm]) hF1 hM (by kernel_rfl) rfl rfl (by kernel_rfl) (by kernel_rfl) rfl (by kernel_rfl) fun w hM => ?_
    exact ⟨(hF1.cast (by kernel_rfl)), ((hM.repl 5 (by kernel_rfl)).cast (by kernel_rfl))⟩
  ·intro a1 w hS
   obtain ⟨hF1, hM⟩ := hS
   replace hF1 : Fr 36 [(1, some (.pointer (some ⟨bb2, 0, none⟩))), (2, some (.pointer (some ⟨bb3, 0, none⟩))), (19, some (.pointer (some ⟨bb2, 3, none⟩))), (20, some (.slice A3 ls.length cs)), (21, some (.pointer (some ⟨bb2, 3, none⟩))), (22, some (.slice A3 ls.length cs)), (23, some (.int .i64 (ls.length : Int))), (24, some (.int .i64 (min (ls.length : Int) 65))), (25, some (.slice A3 lsl_3.length cs)), (26, some (.pointer (some ⟨bb2, 4, none⟩))), (27, some (.slice A4 lm.length cm)), (28, some (.pointer (some ⟨bb2, 4, none⟩))), (29, some (.slice A4 lm.length cm)), (30, some (.int .i64 (lm.length : Int))), (31, some (.int .i64 (min (lm.length : Int) 65))), (32, some (.slice A4 lsl_4.length cm)), (33, some (.pointer (some ⟨bb2, 3, none⟩))), (34, some (.pointer (some ⟨bb2, 4, none⟩)))] a1 := hF1.cast (by kernel_rfl)
   replace hM : Mem w0.heap.size w0 [(1, some (.ro A (flatR la))), (2, some (.ro A2 (flatR lq))), (3, some (.ro A3 (ls.map (Value.int .i64)))), (4, some (.ro A4 (flatR lm))), (5, some (.row bb1 27 #[.slice A la.length ca, .slice A2 lq.length cq_, .int .i64 now, .slice A3 ls.length cs, .slice A4 lm.length cm])), (6, some (.row bb2 27 #[.slice A lsl.length ca, .slice A2 lsl_2.length cq_, .int .i64 now, .slice A3 lsl_3.length cs, .slice A4 lsl_4.length cm])), (7, some (.row bb3 27 #[.slice none 0 0, .slice none 0 0, .int .i64 0, .slice none 0 0, .slice none 0 0])), (8, some (.ro A (flatR lsl))), (9, some (.ro A2 (flatR lsl_2))), (10, some (.ro A3 (lsl_3.map (Value.int .i64)))), (11, some (.ro A4 (flatR lsl_4)))] w := hM.cast (by kernel_rfl)
   refine hK8 _ _ ?_
   refine wp_seq_k fun K9 hK9 => ?_
   refine wp_region_lit ?_
   refine wl (eL 35 6 0 (v := .agg #[.slice A lsl.length ca, .slice A2 lsl_2.length cq_, .int .i64 now, .slice A3 lsl_3.length cs, .slice A4 lsl_4.length cm]) hF1 hM (by kernel_rfl) rfl rfl (by kernel_rfl) (by kernel_rfl) fun a1 w hF1 hM => ?_)
   refine wl (sStore (i := 7) (off := 0) (cs' := #[.slice A lsl.length ca, .slice A2 lsl_2.length cq_, .int .i64 now, .slice A3 lsl_3.length cs, .slice A4 lsl_4.length cm]) hF1 hM (by kernel_rfl) rfl rfl (by kernel_rfl) (by kernel_rfl) rfl (by kernel_rfl) fun w hM => ?_)
   refine wpList_nil ?_
   refine hK9 _ _ ?_
   refine wp_ret ?_
   refine hR5 _ _ ?_
   refine ret_of hF1 hM (.cell (i := 7) rfl rfl (v := .agg #[.slice A lsl.length ca, .slice A2 lsl_2.length cq_, .int .i64 now, .slice A3 lsl_3.length cs, .slice A4 lsl_4.length cm]) (by kernel_rfl) (.nil)) ⟨_, rfl, ?_⟩
   intro a hF
   refine wl (eN 3 12 (t := 27) (fun b => .pointer (some ⟨b, 0, none⟩)) #[.slice none 0 0, .slice none 0 0, .int .i64 0, .slice none 0 0, .slice none 0 0] hF hM (by kernel_rfl) (fun _ => by kernel_rfl) fun bb4 a w hF hM => ?_)
   refine wl (sStore (i := 12) (off := 0) (cs' := #[.slice A lsl.length ca, .slice A2 lsl_2.length cq_, .int .i64 now, .slice A3 lsl_3.length cs, .slice A4 lsl_4.length cm]) hF hM (by kernel_rfl) rfl rfl (by kernel_rfl) (by kernel_rfl) rfl (by kernel_rfl) fun w hM => ?_)
   refine wpList_nil ?_
   refine hK4 _ _ ?_
   refine wp_seq_k fun K10 hK10 => ?_
   refine wp_region_lit ?_
   refine wl (eL 14 12 0 (v := .agg #[.slice A lsl.length ca, .slice A2 lsl_2.length cq_, .int .i64 now, .slice A3 lsl_3.length cs, .slice A4 lsl_4.length cm]) hF hM (by kernel_rfl) rfl rfl (by kernel_rfl) (by kernel_rfl) fun a w hF hM => ?_)
   refine wl (eM 15 (v := .bool (frB lsl lsl_2 now lsl_3 lsl_4)) hF hM (by kernel_rfl) (yld_call (f := 11) (args := #[.agg #[.slice A lsl.length ca, .slice A2 lsl_2.length cq_, .int .i64 now, .slice A3 lsl_3.length cs, .slice A4 lsl_4.length cm]]) hF (by kernel_rfl) (fun _ => by kernel_rfl) (fun w hM => rRight33_x A lsl ca A2 lsl_2 cq_ now A3 lsl_3 cs A4 lsl_4 cm w (hM.ok 8 _ rfl) hW_lsl (hM.ok 9 _ rfl) hW_lsl_2 (hM.ok 10 _ rfl) (hM.ok 11 _ rfl) hW_lsl_4 rfl rfl rfl rfl)) fun a w hF hM => ?_)
   refine sB 1 [(4, .bool (frB lsl lsl_2 now lsl_3 lsl_4))] hF (by kernel_rfl) fun a hF => ?_
   refine wpList_nil ?_
   refine hK10 _ _ ?_
   refine wp_seq_k fun K11 hK11 => ?_
   refine wp_seq_k fun K12 hK12 => ?_
   refine wp_region_lit ?_
   refine wl (eL 16 12 0 (v := .agg #[.slice A lsl.length ca, .slice A2 lsl_2.length cq_, .int .i64 now, .slice A3 lsl_3.length cs, .slice A4 lsl_4.length cm]) hF hM (by kernel_rfl) rfl rfl (by kernel_rfl) (by kernel_rfl) fun a w hF hM => ?_)
   refine wl (eM 17 (v := .int .i64 (flE lsl lsl_2 now lsl_3 lsl_4)) hF hM (by kernel_rfl) (yld_call (f := 12) (args := #[.agg #[.slice A lsl.length ca, .slice A2 lsl_2.length cq_, .int .i64 now, .slice A3 lsl_3.length cs, .slice A4 lsl_4.length cm]]) hF (by kernel_rfl) (fun _ => by kernel_rfl) (fun w hM => fiCheck_x A lsl ca A2 lsl_2 cq_ now A3 lsl_3 cs A4 lsl_4 cm w (hM.ok 8 _ rfl) hW_lsl (hM.ok 9 _ rfl) hW_lsl_2 (hM.ok 10 _ rfl) (hM.ok 11 _ rfl) hW_lsl_4 rfl rfl rfl rfl)) fun a w hF hM => ?_)
   refine sB 1 [(5, .int .i64 (flE lsl lsl_2 now lsl_3 lsl_4))] hF (by kernel_rfl) fun a hF => ?_
   refine wpList_nil ?_
   refine hK12 _ _ ?_
   refine wp_seq_k fun K13 hK13 => ?_
   by_cases hz1 : flE lsl lsl_2 now lsl_3 lsl_4 = 0
   ·skip
    have hfr := flB_yes hz1
    replace hF := hF.c hF (i := 4) (v := .bool true) rfl (congrArg Value.bool hfr)
    replace hF := hF.c hF (i := 15) (v := .bool true) rfl (congrArg Value.bool hfr)
    refine wp_region_lit ?_
    refine sB 2 [(18, .bool true), (19, .int .i64 (flE lsl lsl_2 now lsl_3 lsl_4))] hF (by kernel_rfl) fun a hF => ?_
    refine wl (eP 20 (v0 := .bool (decide (flE lsl lsl_2 now lsl_3 lsl_4 = 0))) (v := .bool true) hF (by kernel_rfl) (fun _ => by kernel_rfl) (bT hz1) fun a hF => ?_)
    refine sB 9 [(21, .bool false), (22, .bool false), (23, .bool true), (24, .bool false), (25, .bool false), (26, undef), (27, undef), (28, .bool false), (29, .bool false)] hF (by kernel_rfl) fun a hF => ?_
    refine wpList_nil ?_
    refine hK13 _ _ ?_
    refine cF hF (by kernel_rfl) (by kernel_rfl) ?_
    refine wp_skip ?_
    refine hK11 _ _ ?_
    refine wp_seq_k fun K14 hK14 => ?_
    cases hz2 : (liB lsl lsl_2)
    ·skip
     refine wp_region_lit ?_
     refine sB 1 [(31, .pointer (some ⟨bb4, 0, none⟩))] hF (by kernel_rfl) fun a hF => ?_
     refine wl (eL 32 12 0 (v := .slice A lsl.length ca) hF hM (by kernel_rfl) rfl rfl (by kernel_rfl) (by kernel_rfl) fun a w hF hM => ?_)
     refine sB 1 [(33, .pointer (some ⟨bb4, 1, none⟩))] hF (by kernel_rfl) fun a hF => ?_
     refine wl (eL 34 12 1 (v := .slice A2 lsl_2.length cq_) hF hM (by kernel_rfl) rfl rfl (by kernel_rfl) (by kernel_rfl) fun a w hF hM => ?_)
     refine wl (eM 35 (v := .tuple #[.agg #[.slice none 0 0, .slice none 0 0, .int .i64 0, .slice none 0 0, .slice none 0 0], .int .i64 2]) hF hM (by kernel_rfl) (yld_call (f := 13) (args := #[.slice A lsl.length ca, .slice A2 lsl_2.length cq_]) hF (by kernel_rfl) (fun _ => by kernel_rfl) (fun w hM => fiNew_no A lsl ca A2 lsl_2 cq_ w (hM.ok 8 _ rfl) hW_lsl (hM.ok 9 _ rfl) hW_lsl_2 hz2)) fun a w hF hM => ?_)
     refine sB 3 [(30, .tuple #[.agg #[.slice none 0 0, .slice none 0 0, .int .i64 0, .slice none 0 0, .slice none 0 0], .int .i64 2]), (36, .agg #[.slice none 0 0, .slice none 0 0, .int .i64 0, .slice none 0 0, .slice none 0 0]), (37, .int .i64 2)] hF (by kernel_rfl) fun a hF => ?_
     refine wl (eN 6 13 (t := 27) (fun b => .pointer (some ⟨b, 0, none⟩)) #[.slice none 0 0, .slice none 0 0, .int .i64 0, .slice none 0 0, .slice none 0 0] hF hM (by kernel_rfl) (fun _ => by kernel_rfl) fun bb5 a w hF hM => ?_)
     refine wl (sStore (i := 13) (off := 0) (cs' := #[.slice none 0 0, .slice none 0 0, .int .i64 0, .slice none 0 0, .slice none 0 0]) hF hM (by kernel_rfl) rfl rfl (by kernel_rfl) (by kernel_rfl) rfl (by kernel_rfl) fun w hM => ?_)
     refine sB 1 [(7, .int .i64 2)] hF (by kernel_rfl) fun a hF => ?_
     refine wpList_nil ?_
     refine hK14 _ _ ?_
     refine wp_seq_k fun K15 hK15 => ?_
     refine wp_region_lit ?_
     refine sB 1 [(39, .pointer (some ⟨bb4, 0, none⟩))] hF (by kernel_rfl) fun a hF => ?_
     refine wl (eL 40 12 0 (v := .slice A lsl.length ca) hF hM (by kernel_rfl) rfl rfl (by kernel_rfl) (by kernel_rfl) fun a w hF hM => ?_)
     refine sB 1 [(41, .pointer (some ⟨bb4, 1, none⟩))] hF (by kernel_rfl) fun a hF => ?_
     refine wl (eL 42 12 1 (v := .slice A2 lsl_2.length cq_) hF hM (by kernel_rfl) rfl rfl (by kernel_rfl) (by kernel_rfl) fun a w hF hM => ?_)
     refine wl (eM 43 (v := .tuple #[.agg #[.slice none 0 0, .slice none 0 0, .int .i64 0, .slice none 0 0, .slice none 0 0], .bool false]) hF hM (by kernel_rfl) (yld_call (f := 14) (args := #[.slice A lsl.length ca, .slice A2 lsl_2.length cq_]) hF (by kernel_rfl) (fun _ => by kernel_rfl) (fun w hM => rNew33_no A lsl ca A2 lsl_2 cq_ w (hM.ok 8 _ rfl) hW_lsl (hM.ok 9 _ rfl) hW_lsl_2 ⟨by first | omega | decide, by first | omega | decide⟩ hz2)) fun a w hF hM => ?_)
     refine sB 3 [(38, .tuple #[.agg #[.slice none 0 0, .slice none 0 0, .int .i64 0, .slice none 0 0, .slice none 0 0], .bool false]), (44, .agg #[.slice none 0 0, .slice none 0 0, .int .i64 0, .slice none 0 0, .slice none 0 0]), (45, .bool false)] hF (by kernel_rfl) fun a hF => ?_
     refine wl (eN 8 14 (t := 27) (fun b => .pointer (some ⟨b, 0, none⟩)) #[.slice none 0 0, .slice none 0 0, .int .i64 0, .slice none 0 0, .slice none 0 0] hF hM (by kernel_rfl) (fun _ => by kernel_rfl) fun bb6 a w hF hM => ?_)
     refine wl (sStore (i := 14) (off := 0) (cs' := #[.slice none 0 0, .slice none 0 0, .int .i64 0, .slice none 0 0, .slice none 0 0]) hF hM (by kernel_rfl) rfl rfl (by kernel_rfl) (by kernel_rfl) rfl (by kernel_rfl) fun w hM => ?_)
     refine sB 1 [(9, .bool false)] hF (by kernel_rfl) fun a hF => ?_
     refine wpList_nil ?_
     refine hK15 _ _ ?_
     refine wp_seq_k fun K16 hK16 => ?_
     refine wp_seq_k fun K17 hK17 => ?_
     refine wp_region_lit ?_
     refine sB 2 [(46, .bool false), (47, .bool true)] hF (by kernel_rfl) fun a hF => ?_
     refine wpList_nil ?_
     refine hK17 _ _ ?_
     refine cT hF (by kernel_rfl) (by kernel_rfl) ?_
     refine wp_seq_k fun K18 hK18 => ?_
     refine wp_region_lit ?_
     refine wl (eL 48 13 0 (v := .agg #[.slice none 0 0, .slice none 0 0, .int .i64 0, .slice none 0 0, .slice none 0 0]) hF hM (by kernel_rfl) rfl rfl (by kernel_rfl) (by kernel_rfl) fun a w hF hM => ?_)
     refine sB 1 [(49, .agg #[.slice none 0 0, .slice none 0 0, .int .i64 0, .slice none 0 0, .slice none 0 0])] hF (by kernel_rfl) fun a hF => ?_
     refine wl (eM 50 (v := .bool true) hF hM (by kernel_rfl) (yld_call (f := 15) (args := #[.agg #[.slice none 0 0, .slice none 0 0, .int .i64 0, .slice none 0 0, .slice none 0 0], .agg #[.slice none 0 0, .slice none 0 0, .int .i64 0, .slice none 0 0, .slice none 0 0]]) hF (by kernel_rfl) (fun _ => by kernel_rfl) (fun w hM => calls_bool (same_refl ([] : List (List Int)) ([] : List (List Int)) 0 ([] : List Int) ([] : List (List Int))) (same33_x none ([] : List (List Int)) 0 none ([] : List (List Int)) 0 0 none ([] : List Int) 0 none ([] : List (List Int)) 0 none ([] : List (List Int)) 0 none ([] : List (List Int)) 0 0 none ([] : List Int) 0 none ([] : List (List Int)) 0 w Ro.nil WR.nil Ro.nil WR.nil Ro.nil Ro.nil WR.nil Ro.nil WR.nil Ro.nil WR.nil Ro.nil Ro.nil WR.nil ⟨by first | omega | decide, by first | omega | decide, by first | omega | decide, by first | omega | decide⟩ rfl rfl rfl rfl rfl rfl rfl rfl))) fun a w hF hM => ?_)
     refine sB 2 [(51, .bool true), (52, .int .i64 2)] hF (by kernel_rfl) fun a hF => ?_
     refine wl (eP 53 (v0 := .bool (decide (2 = 2))) (v := .bool true) hF (by kernel_rfl) (fun _ => by kernel_rfl) (bT (by omega)) fun a hF => ?_)
     refine sB 2 [(54, .bool true), (2, .bool true)] hF (by kernel_rfl) fun a hF => ?_
     refine wpList_nil ?_
     refine hK18 _ _ ?_
     refine wp_ret ?_
     refine hR0 _ _ ?_
     refine ret_of hF hM (.tmp rfl (.nil)) ?_
     exact ⟨rfl, hM.bel⟩
    ·skip
     refine wp_region_lit ?_
     refine sB 1 [(31, .pointer (some ⟨bb4, 0, none⟩))] hF (by kernel_rfl) fun a hF => ?_
     refine wl (eL 32 12 0 (v := .slice A lsl.length ca) hF hM (by kernel_rfl) rfl rfl (by kernel_rfl) (by kernel_rfl) fun a w hF hM => ?_)
     refine sB 1 [(33, .pointer (some ⟨bb4, 1, none⟩))] hF (by kernel_rfl) fun a hF => ?_
     refine wl (eL 34 12 1 (v := .slice A2 lsl_2.length cq_) hF hM (by kernel_rfl) rfl rfl (by kernel_rfl) (by kernel_rfl) fun a w hF hM => ?_)
     obtain ⟨nl, enl⟩ : ∃ z, nwL lsl = z := ⟨_, rfl⟩
     obtain ⟨nm, enm⟩ : ∃ z, nwM lsl_2 = z := ⟨_, rfl⟩
     have hnm : WR 3 nm := enm ▸ nwM_wr
     have lnl : lsl.length = nl.length := by rw [← enl]; exact nwL_len.symm
     have lnm : lsl_2.length = nm.length := by rw [← enm]; exact nwM_len.symm
     have fnl : flE lsl lsl_2 (-1000) nl nm = 0 := by rw [← enl, ← enm]; exact fl_new hz2
     have gnl := fl_len (fl_p fnl)
     refine wl (sRo2 15 16 (f := 13) (args := #[.slice A lsl.length ca, .slice A2 lsl_2.length cq_]) (mk := (fun x y => .tuple #[.agg #[.slice A lsl.length ca, .slice A2 lsl_2.length cq_, .int .i64 (-1000), x, y], .int .i64 0])) (A3 := none) (A4 := none) (n3 := nl.length) (n4 := nm.length) (xs := (nl.map (Value.int .i64))) (ys := (flatR nm)) hF hM (by kernel_rfl) rfl (by decide) (by kernel_rfl) (fun _ => by kernel_rfl) (fiNew_ok A lsl ca A2 lsl_2 cq_ w (hM.ok 8 _ rfl) hW_lsl (hM.ok 9 _ rfl) hW_lsl_2 hz2 enl enm lnl lnm) (.inr Free.none_) (.inr Free.none_) fun AA7 cc7 AA8 cc8 a w hF hM => ?_)
     refine sB 3 [(30, .tuple #[.agg #[.slice A lsl.length ca, .slice A2 lsl_2.length cq_, .int .i64 (-1000), .slice AA7 nl.length cc7, .slice AA8 nm.length cc8], .int .i64 0]), (36, .agg #[.slice A lsl.length ca, .slice A2 lsl_2.length cq_, .int .i64 (-1000), .slice AA7 nl.length cc7, .slice AA8 nm.length cc8]), (37, .int .i64 0)] hF (by kernel_rfl) fun a hF => ?_
     refine wl (eN 6 17 (t := 27) (fun b => .pointer (some ⟨b, 0, none⟩)) #[.slice none 0 0, .slice none 0 0, .int .i64 0, .slice none 0 0, .slice none 0 0] hF hM (by kernel_rfl) (fun _ => by kernel_rfl) fun bb9 a w hF hM => ?_)
     refine wl (sStore (i := 17) (off := 0) (cs' := #[.slice A lsl.length ca, .slice A2 lsl_2.length cq_, .int .i64 (-1000), .slice AA7 nl.length cc7, .slice AA8 nm.length cc8]) hF hM (by kernel_rfl) rfl rfl (by kernel_rfl) (by kernel_rfl) rfl (by kernel_rfl) fun w hM => ?_)
     refine sB 1 [(7, .int .i64 0)] hF (by kernel_rfl) fun a hF => ?_
     refine wpList_nil ?_
     refine hK14 _ _ ?_
     refine wp_seq_k fun K19 hK19 => ?_
     refine wp_region_lit ?_
     refine sB 1 [(39, .pointer (some ⟨bb4, 0, none⟩))] hF (by kernel_rfl) fun a hF => ?_
     refine wl (eL 40 12 0 (v := .slice A lsl.length ca) hF hM (by kernel_rfl) rfl rfl (by kernel_rfl) (by kernel_rfl) fun a w hF hM => ?_)
     refine sB 1 [(41, .pointer (some ⟨bb4, 1, none⟩))] hF (by kernel_rfl) fun a hF => ?_
     refine wl (eL 42 12 1 (v := .slice A2 lsl_2.length cq_) hF hM (by kernel_rfl) rfl rfl (by kernel_rfl) (by kernel_rfl) fun a w hF hM => ?_)
     refine wl (sRo2 18 19 (f := 14) (args := #[.slice A lsl.length ca, .slice A2 lsl_2.length cq_]) (mk := (fun x y => .tuple #[.agg #[.slice A lsl.length ca, .slice A2 lsl_2.length cq_, .int .i64 (-1000), x, y], .bool true])) (A3 := none) (A4 := none) (n3 := nl.length) (n4 := nm.length) (xs := (nl.map (Value.int .i64))) (ys := (flatR nm)) hF hM (by kernel_rfl) rfl (by decide) (by kernel_rfl) (fun _ => by kernel_rfl) (rNew33_ok A lsl ca A2 lsl_2 cq_ w (hM.ok 8 _ rfl) hW_lsl (hM.ok 9 _ rfl) hW_lsl_2 ⟨by first | omega | decide, by first | omega | decide⟩ hz2 enl enm lnl lnm) (.inr Free.none_) (.inr Free.none_) fun AA10 cc10 AA11 cc11 a w hF hM => ?_)
     refine sB 3 [(38, .tuple #[.agg #[.slice A lsl.length ca, .slice A2 lsl_2.length cq_, .int .i64 (-1000), .slice AA10 nl.length cc10, .slice AA11 nm.length cc11], .bool true]), (44, .agg #[.slice A lsl.length ca, .slice A2 lsl_2.length cq_, .int .i64 (-1000), .slice AA10 nl.length cc10, .slice AA11 nm.length cc11]), (45, .bool true)] hF (by kernel_rfl) fun a hF => ?_
     refine wl (eN 8 20 (t := 27) (fun b => .pointer (some ⟨b, 0, none⟩)) #[.slice none 0 0, .slice none 0 0, .int .i64 0, .slice none 0 0, .slice none 0 0] hF hM (by kernel_rfl) (fun _ => by kernel_rfl) fun bb12 a w hF hM => ?_)
     refine wl (sStore (i := 20) (off := 0) (cs' := #[.slice A lsl.length ca, .slice A2 lsl_2.length cq_, .int .i64 (-1000), .slice AA10 nl.length cc10, .slice AA11 nm.length cc11]) hF hM (by kernel_rfl) rfl rfl (by kernel_rfl) (by kernel_rfl) rfl (by kernel_rfl) fun w hM => ?_)
     refine sB 1 [(9, .bool true)] hF (by kernel_rfl) fun a hF => ?_
     refine wpList_nil ?_
     refine hK19 _ _ ?_
     refine wp_seq_k fun K20 hK20 => ?_
     refine wp_seq_k fun K21 hK21 => ?_
     refine wp_region_lit ?_
     refine sB 2 [(46, .bool true), (47, .bool false)] hF (by kernel_rfl) fun a hF => ?_
     refine wpList_nil ?_
     refine hK21 _ _ ?_
     refine cF hF (by kernel_rfl) (by kernel_rfl) ?_
     refine wp_skip ?_
     refine hK20 _ _ ?_
     refine wp_seq_k fun K22 hK22 => ?_
     refine wp_region_lit ?_
     refine wl (eL 55 17 0 (v := .agg #[.slice A lsl.length ca, .slice A2 lsl_2.length cq_, .int .i64 (-1000), .slice AA7 nl.length cc7, .slice AA8 nm.length cc8]) hF hM (by kernel_rfl) rfl rfl (by kernel_rfl) (by kernel_rfl) fun a w hF hM => ?_)
     refine wl (eL 56 20 0 (v := .agg #[.slice A lsl.length ca, .slice A2 lsl_2.length cq_, .int .i64 (-1000), .slice AA10 nl.length cc10, .slice AA11 nm.length cc11]) hF hM (by kernel_rfl) rfl rfl (by kernel_rfl) (by kernel_rfl) fun a w hF hM => ?_)
     refine wl (eM 57 (v := .bool true) hF hM (by kernel_rfl) (yld_call (f := 15) (args := #[.agg #[.slice A lsl.length ca, .slice A2 lsl_2.length cq_, .int .i64 (-1000), .slice AA7 nl.length cc7, .slice AA8 nm.length cc8], .agg #[.slice A lsl.length ca, .slice A2 lsl_2.length cq_, .int .i64 (-1000), .slice AA10 nl.length cc10, .slice AA11 nm.length cc11]]) hF (by kernel_rfl) (fun _ => by kernel_rfl) (fun w hM => calls_bool (same_refl lsl lsl_2 (-1000) nl nm) (same33_x A lsl ca A2 lsl_2 cq_ (-1000) AA7 nl cc7 AA8 nm cc8 A lsl ca A2 lsl_2 cq_ (-1000) AA10 nl cc10 AA11 nm cc11 w (hM.ok 8 _ rfl) hW_lsl (hM.ok 9 _ rfl) hW_lsl_2 (hM.ok 15 _ rfl) (hM.ok 16 _ rfl) hnm (hM.ok 8 _ rfl) hW_lsl (hM.ok 9 _ rfl) hW_lsl_2 (hM.ok 18 _ rfl) (hM.ok 19 _ rfl) hnm ⟨by first | omega | decide, by first | omega | decide, by first | omega | decide, by first | omega | decide⟩ rfl rfl rfl rfl rfl rfl rfl rfl))) fun a w hF hM => ?_)
     refine sB 2 [(58, .bool true), (59, .int .i64 0)] hF (by kernel_rfl) fun a hF => ?_
     refine wl (eP 60 (v0 := .bool (decide (0 = 0))) (v := .bool true) hF (by kernel_rfl) (fun _ => by kernel_rfl) (bT (by omega)) fun a hF => ?_)
     refine sB 2 [(61, .bool true), (62, .bool true)] hF (by kernel_rfl) fun a hF => ?_
     refine wl (eL 63 17 0 (v := .agg #[.slice A lsl.length ca, .slice A2 lsl_2.length cq_, .int .i64 (-1000), .slice AA7 nl.length cc7, .slice AA8 nm.length cc8]) hF hM (by kernel_rfl) rfl rfl (by kernel_rfl) (by kernel_rfl) fun a w hF hM => ?_)
     refine wl (eM 64 (v := .int .i64 (flE lsl lsl_2 (-1000) nl nm)) hF hM (by kernel_rfl) (yld_call (f := 12) (args := #[.agg #[.slice A lsl.length ca, .slice A2 lsl_2.length cq_, .int .i64 (-1000), .slice AA7 nl.length cc7, .slice AA8 nm.length cc8]]) hF (by kernel_rfl) (fun _ => by kernel_rfl) (fun w hM => fiCheck_x A lsl ca A2 lsl_2 cq_ (-1000) AA7 nl cc7 AA8 nm cc8 w (hM.ok 8 _ rfl) hW_lsl (hM.ok 9 _ rfl) hW_lsl_2 (hM.ok 15 _ rfl) (hM.ok 16 _ rfl) hnm rfl rfl rfl rfl)) fun a w hF hM => ?_)
     refine wl (eP 65 (v0 := .bool (decide (flE lsl lsl_2 (-1000) nl nm = 0))) (v := .bool true) hF (by kernel_rfl) (fun _ => by kernel_rfl) (bT fnl) fun a hF => ?_)
     refine sB 2 [(66, .bool true), (2, .bool true)] hF (by kernel_rfl) fun a hF => ?_
     refine wpList_nil ?_
     refine hK22 _ _ ?_
     refine wp_ret ?_
     refine hR0 _ _ ?_
     refine ret_of hF hM (.tmp rfl (.nil)) ?_
     exact ⟨rfl, hM.bel⟩
   ·skip
    have hfr := flB_no hz1
    have h43 := fl_case hz1
    replace hF := hF.c hF (i := 4) (v := .bool false) rfl (congrArg Value.bool hfr)
    replace hF := hF.c hF (i := 15) (v := .bool false) rfl (congrArg Value.bool hfr)
    refine wp_region_lit ?_
    refine sB 2 [(18, .bool false), (19, .int .i64 (flE lsl lsl_2 now lsl_3 lsl_4))] hF (by kernel_rfl) fun a hF => ?_
    refine wl (eP 20 (v0 := .bool (decide (flE lsl lsl_2 now lsl_3 lsl_4 = 0))) (v := .bool false) hF (by kernel_rfl) (fun _ => by kernel_rfl) (bF hz1) fun a hF => ?_)
    refine sB 6 [(21, .bool false), (22, .bool false), (23, .bool false), (24, .bool true), (25, .bool true), (26, .int .i64 (flE lsl lsl_2 now lsl_3 lsl_4))] hF (by kernel_rfl) fun a hF => ?_
    refine wl (eP 27 (v0 := .bool (!decide (flE lsl lsl_2 now lsl_3 lsl_4 = 430))) (v := .bool false) hF (by kernel_rfl) (fun _ => by kernel_rfl) (nT h43) fun a hF => ?_)
    refine sB 2 [(28, .bool false), (29, .bool false)] hF (by kernel_rfl) fun a hF => ?_
    refine wpList_nil ?_
    refine hK13 _ _ ?_
    refine cF hF (by kernel_rfl) (by kernel_rfl) ?_
    refine wp_skip ?_
    refine hK11 _ _ ?_
    refine wp_seq_k fun K23 hK23 => ?_
    cases hz3 : (liB lsl lsl_2)
    ·skip
     refine wp_region_lit ?_
     refine sB 1 [(31, .pointer (some ⟨bb4, 0, none⟩))] hF (by kernel_rfl) fun a hF => ?_
     refine wl (eL 32 12 0 (v := .slice A lsl.length ca) hF hM (by kernel_rfl) rfl rfl (by kernel_rfl) (by kernel_rfl) fun a w hF hM => ?_)
     refine sB 1 [(33, .pointer (some ⟨bb4, 1, none⟩))] hF (by kernel_rfl) fun a hF => ?_
     refine wl (eL 34 12 1 (v := .slice A2 lsl_2.length cq_) hF hM (by kernel_rfl) rfl rfl (by kernel_rfl) (by kernel_rfl) fun a w hF hM => ?_)
     refine wl (eM 35 (v := .tuple #[.agg #[.slice none 0 0, .slice none 0 0, .int .i64 0, .slice none 0 0, .slice none 0 0], .int .i64 2]) hF hM (by kernel_rfl) (yld_call (f := 13) (args := #[.slice A lsl.length ca, .slice A2 lsl_2.length cq_]) hF (by kernel_rfl) (fun _ => by kernel_rfl) (fun w hM => fiNew_no A lsl ca A2 lsl_2 cq_ w (hM.ok 8 _ rfl) hW_lsl (hM.ok 9 _ rfl) hW_lsl_2 hz3)) fun a w hF hM => ?_)
     refine sB 3 [(30, .tuple #[.agg #[.slice none 0 0, .slice none 0 0, .int .i64 0, .slice none 0 0, .slice none 0 0], .int .i64 2]), (36, .agg #[.slice none 0 0, .slice none 0 0, .int .i64 0, .slice none 0 0, .slice none 0 0]), (37, .int .i64 2)] hF (by kernel_rfl) fun a hF => ?_
     refine wl (eN 6 21 (t := 27) (fun b => .pointer (some ⟨b, 0, none⟩)) #[.slice none 0 0, .slice none 0 0, .int .i64 0, .slice none 0 0, .slice none 0 0] hF hM (by kernel_rfl) (fun _ => by kernel_rfl) fun bb13 a w hF hM => ?_)
     refine wl (sStore (i := 21) (off := 0) (cs' := #[.slice none 0 0, .slice none 0 0, .int .i64 0, .slice none 0 0, .slice none 0 0]) hF hM (by kernel_rfl) rfl rfl (by kernel_rfl) (by kernel_rfl) rfl (by kernel_rfl) fun w hM => ?_)
     refine sB 1 [(7, .int .i64 2)] hF (by kernel_rfl) fun a hF => ?_
     refine wpList_nil ?_
     refine hK23 _ _ ?_
     refine wp_seq_k fun K24 hK24 => ?_
     refine wp_region_lit ?_
     refine sB 1 [(39, .pointer (some ⟨bb4, 0, none⟩))] hF (by kernel_rfl) fun a hF => ?_
     refine wl (eL 40 12 0 (v := .slice A lsl.length ca) hF hM (by kernel_rfl) rfl rfl (by kernel_rfl) (by kernel_rfl) fun a w hF hM => ?_)
     refine sB 1 [(41, .pointer (some ⟨bb4, 1, none⟩))] hF (by kernel_rfl) fun a hF => ?_
     refine wl (eL 42 12 1 (v := .slice A2 lsl_2.length cq_) hF hM (by kernel_rfl) rfl rfl (by kernel_rfl) (by kernel_rfl) fun a w hF hM => ?_)
     refine wl (eM 43 (v := .tuple #[.agg #[.slice none 0 0, .slice none 0 0, .int .i64 0, .slice none 0 0, .slice none 0 0], .bool false]) hF hM (by kernel_rfl) (yld_call (f := 14) (args := #[.slice A lsl.length ca, .slice A2 lsl_2.length cq_]) hF (by kernel_rfl) (fun _ => by kernel_rfl) (fun w hM => rNew33_no A lsl ca A2 lsl_2 cq_ w (hM.ok 8 _ rfl) hW_lsl (hM.ok 9 _ rfl) hW_lsl_2 ⟨by first | omega | decide, by first | omega | decide⟩ hz3)) fun a w hF hM => ?_)
     refine sB 3 [(38, .tuple #[.agg #[.slice none 0 0, .slice none 0 0, .int .i64 0, .slice none 0 0, .slice none 0 0], .bool false]), (44, .agg #[.slice none 0 0, .slice none 0 0, .int .i64 0, .slice none 0 0, .slice none 0 0]), (45, .bool false)] hF (by kernel_rfl) fun a hF => ?_
     refine wl (eN 8 22 (t := 27) (fun b => .pointer (some ⟨b, 0, none⟩)) #[.slice none 0 0, .slice none 0 0, .int .i64 0, .slice none 0 0, .slice none 0 0] hF hM (by kernel_rfl) (fun _ => by kernel_rfl) fun bb14 a w hF hM => ?_)
     refine wl (sStore (i := 22) (off := 0) (cs' := #[.slice none 0 0, .slice none 0 0, .int .i64 0, .slice none 0 0, .slice none 0 0]) hF hM (by kernel_rfl) rfl rfl (by kernel_rfl) (by kernel_rfl) rfl (by kernel_rfl) fun w hM => ?_)
     refine sB 1 [(9, .bool false)] hF (by kernel_rfl) fun a hF => ?_
     refine wpList_nil ?_
     refine hK24 _ _ ?_
     refine wp_seq_k fun K25 hK25 => ?_
     refine wp_seq_k fun K26 hK26 => ?_
     refine wp_region_lit ?_
     refine sB 2 [(46, .bool false), (47, .bool true)] hF (by kernel_rfl) fun a hF => ?_
     refine wpList_nil ?_
     refine hK26 _ _ ?_
     refine cT hF (by kernel_rfl) (by kernel_rfl) ?_
     refine wp_seq_k fun K27 hK27 => ?_
     refine wp_region_lit ?_
     refine wl (eL 48 21 0 (v := .agg #[.slice none 0 0, .slice none 0 0, .int .i64 0, .slice none 0 0, .slice none 0 0]) hF hM (by kernel_rfl) rfl rfl (by kernel_rfl) (by kernel_rfl) fun a w hF hM => ?_)
     refine sB 1 [(49, .agg #[.slice none 0 0, .slice none 0 0, .int .i64 0, .slice none 0 0, .slice none 0 0])] hF (by kernel_rfl) fun a hF => ?_
     refine wl (eM 50 (v := .bool true) hF hM (by kernel_rfl) (yld_call (f := 15) (args := #[.agg #[.slice none 0 0, .slice none 0 0, .int .i64 0, .slice none 0 0, .slice none 0 0], .agg #[.slice none 0 0, .slice none 0 0, .int .i64 0, .slice none 0 0, .slice none 0 0]]) hF (by kernel_rfl) (fun _ => by kernel_rfl) (fun w hM => calls_bool (same_refl ([] : List (List Int)) ([] : List (List Int)) 0 ([] : List Int) ([] : List (List Int))) (same33_x none ([] : List (List Int)) 0 none ([] : List (List Int)) 0 0 none ([] : List Int) 0 none ([] : List (List Int)) 0 none ([] : List (List Int)) 0 none ([] : List (List Int)) 0 0 none ([] : List Int) 0 none ([] : List (List Int)) 0 w Ro.nil WR.nil Ro.nil WR.nil Ro.nil Ro.nil WR.nil Ro.nil WR.nil Ro.nil WR.nil Ro.nil Ro.nil WR.nil ⟨by first | omega | decide, by first | omega | decide, by first | omega | decide, by first | omega | decide⟩ rfl rfl rfl rfl rfl rfl rfl rfl))) fun a w hF hM => ?_)
     refine sB 2 [(51, .bool true), (52, .int .i64 2)] hF (by kernel_rfl) fun a hF => ?_
     refine wl (eP 53 (v0 := .bool (decide (2 = 2))) (v := .bool true) hF (by kernel_rfl) (fun _ => by kernel_rfl) (bT (by omega)) fun a hF => ?_)
     refine sB 2 [(54, .bool true), (2, .bool true)] hF (by kernel_rfl) fun a hF => ?_
     refine wpList_nil ?_
     refine hK27 _ _ ?_
     refine wp_ret ?_
     refine hR0 _ _ ?_
     refine ret_of hF hM (.tmp rfl (.nil)) ?_
     exact ⟨rfl, hM.bel⟩
    ·skip
     refine wp_region_lit ?_
     refine sB 1 [(31, .pointer (some ⟨bb4, 0, none⟩))] hF (by kernel_rfl) fun a hF => ?_
     refine wl (eL 32 12 0 (v := .slice A lsl.length ca) hF hM (by kernel_rfl) rfl rfl (by kernel_rfl) (by kernel_rfl) fun a w hF hM => ?_)
     refine sB 1 [(33, .pointer (some ⟨bb4, 1, none⟩))] hF (by kernel_rfl) fun a hF => ?_
     refine wl (eL 34 12 1 (v := .slice A2 lsl_2.length cq_) hF hM (by kernel_rfl) rfl rfl (by kernel_rfl) (by kernel_rfl) fun a w hF hM => ?_)
     obtain ⟨nl, enl⟩ : ∃ z, nwL lsl = z := ⟨_, rfl⟩
     obtain ⟨nm, enm⟩ : ∃ z, nwM lsl_2 = z := ⟨_, rfl⟩
     have hnm : WR 3 nm := enm ▸ nwM_wr
     have lnl : lsl.length = nl.length := by rw [← enl]; exact nwL_len.symm
     have lnm : lsl_2.length = nm.length := by rw [← enm]; exact nwM_len.symm
     have fnl : flE lsl lsl_2 (-1000) nl nm = 0 := by rw [← enl, ← enm]; exact fl_new hz3
     have gnl := fl_len (fl_p fnl)
     refine wl (sRo2 23 24 (f := 13) (args := #[.slice A lsl.length ca, .slice A2 lsl_2.length cq_]) (mk := (fun x y => .tuple #[.agg #[.slice A lsl.length ca, .slice A2 lsl_2.length cq_, .int .i64 (-1000), x, y], .int .i64 0])) (A3 := none) (A4 := none) (n3 := nl.length) (n4 := nm.length) (xs := (nl.map (Value.int .i64))) (ys := (flatR nm)) hF hM (by kernel_rfl) rfl (by decide) (by kernel_rfl) (fun _ => by kernel_rfl) (fiNew_ok A lsl ca A2 lsl_2 cq_ w (hM.ok 8 _ rfl) hW_lsl (hM.ok 9 _ rfl) hW_lsl_2 hz3 enl enm lnl lnm) (.inr Free.none_) (.inr Free.none_) fun AA15 cc15 AA16 cc16 a w hF hM => ?_)
     refine sB 3 [(30, .tuple #[.agg #[.slice A lsl.length ca, .slice A2 lsl_2.length cq_, .int .i64 (-1000), .slice AA15 nl.length cc15, .slice AA16 nm.length cc16], .int .i64 0]), (36, .agg #[.slice A lsl.length ca, .slice A2 lsl_2.length cq_, .int .i64 (-1000), .slice AA15 nl.length cc15, .slice AA16 nm.length cc16]), (37, .int .i64 0)] hF (by kernel_rfl) fun a hF => ?_
     refine wl (eN 6 25 (t := 27) (fun b => .pointer (some ⟨b, 0, none⟩)) #[.slice none 0 0, .slice none 0 0, .int .i64 0, .slice none 0 0, .slice none 0 0] hF hM (by kernel_rfl) (fun _ => by kernel_rfl) fun bb17 a w hF hM => ?_)
     refine wl (sStore (i := 25) (off := 0) (cs' := #[.slice A lsl.length ca, .slice A2 lsl_2.length cq_, .int .i64 (-1000), .slice AA15 nl.length cc15, .slice AA16 nm.length cc16]) hF hM (by kernel_rfl) rfl rfl (by kernel_rfl) (by kernel_rfl) rfl (by kernel_rfl) fun w hM => ?_)
     refine sB 1 [(7, .int .i64 0)] hF (by kernel_rfl) fun a hF => ?_
     refine wpList_nil ?_
     refine hK23 _ _ ?_
     refine wp_seq_k fun K28 hK28 => ?_
     refine wp_region_lit ?_
     refine sB 1 [(39, .pointer (some ⟨bb4, 0, none⟩))] hF (by kernel_rfl) fun a hF => ?_
     refine wl (eL 40 12 0 (v := .slice A lsl.length ca) hF hM (by kernel_rfl) rfl rfl (by kernel_rfl) (by kernel_rfl) fun a w hF hM => ?_)
     refine sB 1 [(41, .pointer (some ⟨bb4, 1, none⟩))] hF (by kernel_rfl) fun a hF => ?_
     refine wl (eL 42 12 1 (v := .slice A2 lsl_2.length cq_) hF hM (by kernel_rfl) rfl rfl (by kernel_rfl) (by kernel_rfl) fun a w hF hM => ?_)
     refine wl (sRo2 26 27 (f := 14) (args := #[.slice A lsl.length ca, .slice A2 lsl_2.length cq_]) (mk := (fun x y => .tuple #[.agg #[.slice A lsl.length ca, .slice A2 lsl_2.length cq_, .int .i64 (-1000), x, y], .bool true])) (A3 := none) (A4 := none) (n3 := nl.length) (n4 := nm.length) (xs := (nl.map (Value.int .i64))) (ys := (flatR nm)) hF hM (by kernel_rfl) rfl (by decide) (by kernel_rfl) (fun _ => by kernel_rfl) (rNew33_ok A lsl ca A2 lsl_2 cq_ w (hM.ok 8 _ rfl) hW_lsl (hM.ok 9 _ rfl) hW_lsl_2 ⟨by first | omega | decide, by first | omega | decide⟩ hz3 enl enm lnl lnm) (.inr Free.none_) (.inr Free.none_) fun AA18 cc18 AA19 cc19 a w hF hM => ?_)
     refine sB 3 [(38, .tuple #[.agg #[.slice A lsl.length ca, .slice A2 lsl_2.length cq_, .int .i64 (-1000), .slice AA18 nl.length cc18, .slice AA19 nm.length cc19], .bool true]), (44, .agg #[.slice A lsl.length ca, .slice A2 lsl_2.length cq_, .int .i64 (-1000), .slice AA18 nl.length cc18, .slice AA19 nm.length cc19]), (45, .bool true)] hF (by kernel_rfl) fun a hF => ?_
     refine wl (eN 8 28 (t := 27) (fun b => .pointer (some ⟨b, 0, none⟩)) #[.slice none 0 0, .slice none 0 0, .int .i64 0, .slice none 0 0, .slice none 0 0] hF hM (by kernel_rfl) (fun _ => by kernel_rfl) fun bb20 a w hF hM => ?_)
     refine wl (sStore (i := 28) (off := 0) (cs' := #[.slice A lsl.length ca, .slice A2 lsl_2.length cq_, .int .i64 (-1000), .slice AA18 nl.length cc18, .slice AA19 nm.length cc19]) hF hM (by kernel_rfl) rfl rfl (by kernel_rfl) (by kernel_rfl) rfl (by kernel_rfl) fun w hM => ?_)
     refine sB 1 [(9, .bool true)] hF (by kernel_rfl) fun a hF => ?_
     refine wpList_nil ?_
     refine hK28 _ _ ?_
     refine wp_seq_k fun K29 hK29 => ?_
     refine wp_seq_k fun K30 hK30 => ?_
     refine wp_region_lit ?_
     refine sB 2 [(46, .bool true), (47, .bool false)] hF (by kernel_rfl) fun a hF => ?_
     refine wpList_nil ?_
     refine hK30 _ _ ?_
     refine cF hF (by kernel_rfl) (by kernel_rfl) ?_
     refine wp_skip ?_
     refine hK29 _ _ ?_
     refine wp_seq_k fun K31 hK31 => ?_
     refine wp_region_lit ?_
     refine wl (eL 55 25 0 (v := .agg #[.slice A lsl.length ca, .slice A2 lsl_2.length cq_, .int .i64 (-1000), .slice AA15 nl.length cc15, .slice AA16 nm.length cc16]) hF hM (by kernel_rfl) rfl rfl (by kernel_rfl) (by kernel_rfl) fun a w hF hM => ?_)
     refine wl (eL 56 28 0 (v := .agg #[.slice A lsl.length ca, .slice A2 lsl_2.length cq_, .int .i64 (-1000), .slice AA18 nl.length cc18, .slice AA19 nm.length cc19]) hF hM (by kernel_rfl) rfl rfl (by kernel_rfl) (by kernel_rfl) fun a w hF hM => ?_)
     refine wl (eM 57 (v := .bool true) hF hM (by kernel_rfl) (yld_call (f := 15) (args := #[.agg #[.slice A lsl.length ca, .slice A2 lsl_2.length cq_, .int .i64 (-1000), .slice AA15 nl.length cc15, .slice AA16 nm.length cc16], .agg #[.slice A lsl.length ca, .slice A2 lsl_2.length cq_, .int .i64 (-1000), .slice AA18 nl.length cc18, .slice AA19 nm.length cc19]]) hF (by kernel_rfl) (fun _ => by kernel_rfl) (fun w hM => calls_bool (same_refl lsl lsl_2 (-1000) nl nm) (same33_x A lsl ca A2 lsl_2 cq_ (-1000) AA15 nl cc15 AA16 nm cc16 A lsl ca A2 lsl_2 cq_ (-1000) AA18 nl cc18 AA19 nm cc19 w (hM.ok 8 _ rfl) hW_lsl (hM.ok 9 _ rfl) hW_lsl_2 (hM.ok 23 _ rfl) (hM.ok 24 _ rfl) hnm (hM.ok 8 _ rfl) hW_lsl (hM.ok 9 _ rfl) hW_lsl_2 (hM.ok 26 _ rfl) (hM.ok 27 _ rfl) hnm ⟨by first | omega | decide, by first | omega | decide, by first | omega | decide, by first | omega | decide⟩ rfl rfl rfl rfl rfl rfl rfl rfl))) fun a w hF hM => ?_)
     refine sB 2 [(58, .bool true), (59, .int .i64 0)] hF (by kernel_rfl) fun a hF => ?_
     refine wl (eP 60 (v0 := .bool (decide (0 = 0))) (v := .bool true) hF (by kernel_rfl) (fun _ => by kernel_rfl) (bT (by omega)) fun a hF => ?_)
     refine sB 2 [(61, .bool true), (62, .bool true)] hF (by kernel_rfl) fun a hF => ?_
     refine wl (eL 63 25 0 (v := .agg #[.slice A lsl.length ca, .slice A2 lsl_2.length cq_, .int .i64 (-1000), .slice AA15 nl.length cc15, .slice AA16 nm.length cc16]) hF hM (by kernel_rfl) rfl rfl (by kernel_rfl) (by kernel_rfl) fun a w hF hM => ?_)
     refine wl (eM 64 (v := .int .i64 (flE lsl lsl_2 (-1000) nl nm)) hF hM (by kernel_rfl) (yld_call (f := 12) (args := #[.agg #[.slice A lsl.length ca, .slice A2 lsl_2.length cq_, .int .i64 (-1000), .slice AA15 nl.length cc15, .slice AA16 nm.length cc16]]) hF (by kernel_rfl) (fun _ => by kernel_rfl) (fun w hM => fiCheck_x A lsl ca A2 lsl_2 cq_ (-1000) AA15 nl cc15 AA16 nm cc16 w (hM.ok 8 _ rfl) hW_lsl (hM.ok 9 _ rfl) hW_lsl_2 (hM.ok 23 _ rfl) (hM.ok 24 _ rfl) hnm rfl rfl rfl rfl)) fun a w hF hM => ?_)
     refine wl (eP 65 (v0 := .bool (decide (flE lsl lsl_2 (-1000) nl nm = 0))) (v := .bool true) hF (by kernel_rfl) (fun _ => by kernel_rfl) (bT fnl) fun a hF => ?_)
     refine sB 2 [(66, .bool true), (2, .bool true)] hF (by kernel_rfl) fun a hF => ?_
     refine wpList_nil ?_
     refine hK31 _ _ ?_
     refine wp_ret ?_
     refine hR0 _ _ ?_
     refine ret_of hF hM (.tmp rfl (.nil)) ?_
     exact ⟨rfl, hM.bel⟩

end Go.Proofs.Ytogeficooemngaa
