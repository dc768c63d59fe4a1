/-
  The reference New.
-/
import Derived.Test.YtogeficooemngaaFiK
import Derived.Test.YtogeficooemngaaFiE2
namespace Go.Proofs.Ytogeficooemngaa
open Go.RowKit
set_option linter.unusedVariables false
set_option linter.unusedSimpArgs false

theorem fr_new {la lq : List (List Int)} (h : liB la lq = true) : frB la lq (-1000) (nwL la) (nwM lq) = true := (fr_yes (fl_p (fl_new h))).symm
theorem fr_liF {la lq : List (List Int)} {now : Int} {ls : List Int} {lm : List (List Int)} (h : liB la lq = false) : frB la lq now ls lm = false := (fr_no fun z => by have := z.1; rw [h] at this; cases this).symm
set_option maxRecDepth 100000 in
set_option maxHeartbeats 4000000 in
theorem rNew33_no (A : Option Addr) (la : List (List Int)) (ca : Nat) (A2 : Option Addr) (lq : List (List Int)) (cq_ : Nat) (w0 : World) (hA : Ro w0 A (flatR la)) (hW : WR 7 la) (hA2 : Ro w0 A2 (flatR lq)) (hW2 : WR 5 lq) (hl : la.length ≤ 100 ∧ lq.length ≤ 100) (h : liB la lq = false) :
    Calls Try.prog 14 #[.slice A la.length ca, .slice A2 lq.length cq_] w0 (Ret w0 (.tuple #[.agg #[.slice none 0 0, .slice none 0 0, .int .i64 0, .slice none 0 0, .slice none 0 0], .bool false])) := by
 refine enterK 59 Try.func14 rfl rfl rfl ?_
 intro a hF Q0 hR0 hN0
 have hM := Mem.start w0
 replace hM := hM.addOld 1 hA (Nat.le_refl _)
 replace hM := hM.addOld 2 hA2 (Nat.le_refl _)
 refine wp_seq_k fun K1 hK1 => ?_
 refine wp_region_lit ?_
 refine wl (eN 4 3 (t := 27) (fun b => .pointer (some ⟨b, 0, none⟩)) #[.slice none 0 0, .slice none 0 0, .int .i64 0, .slice none 0 0, .slice none 0 0] hF hM (by kernel_rfl) (fun _ => by kernel_rfl) fun bb1 a w hF hM => ?_)
 refine sB 1 [(5, .bool false)] hF (by kernel_rfl) fun a hF => ?_
 refine wpList_nil ?_
 refine hK1 _ _ ?_
 refine wp_seq_k fun K2 hK2 => ?_
 refine wp_region_lit ?_
 refine sB 3 [(11, .slice A la.length ca), (12, .slice A2 lq.length cq_), (13, .agg #[.slice A la.length ca, .slice A2 lq.length cq_, .int .i64 (-1000), .slice none 0 0, .slice none 0 0])] hF (by kernel_rfl) fun a hF => ?_
 refine wl (eN 6 4 (t := 27) (fun b => .pointer (some ⟨b, 0, none⟩)) #[.slice none 0 0, .slice none 0 0, .int .i64 0, .slice none 0 0, .slice none 0 0] hF hM (by kernel_rfl) (fun _ => by kernel_rfl) fun bb2 a w hF hM => ?_)
 refine wl (sStore (i := 4) (off := 0) (cs' := #[.slice A la.length ca, .slice A2 lq.length cq_, .int .i64 (-1000), .slice none 0 0, .slice none 0 0]) hF hM (by kernel_rfl) rfl rfl (by kernel_rfl) (by kernel_rfl) rfl (by kernel_rfl) fun w hM => ?_)
 refine wpList_nil ?_
 refine hK2 _ _ ?_
 refine wp_seq_k fun K3 hK3 => ?_
 refine wp_seq_k fun K4 hK4 => ?_
 refine wp_region_lit ?_
 refine sB 1 [(7, .int .i64 0)] hF (by kernel_rfl) fun a hF => ?_
 refine wpList_nil ?_
 refine hK4 _ _ ?_
 refine wp_block ?_
 replace hM := hM.addNil 5 3 1
 refine wp_loop_k (G := Nat × Option Addr × Nat) (fun gg a w => Fr 59 [(7, some (.int .i64 (gg.1 : Int))), (0, some (.slice A la.length ca)), (1, some (.slice A2 lq.length cq_)), (4, some (.pointer (some ⟨bb1, 0, none⟩))), (5, some (.bool false)), (6, some (.pointer (some ⟨bb2, 0, none⟩)))] a ∧ Mem w0.heap.size w0 [(1, some (.ro A (flatR la))), (2, some (.ro A2 (flatR lq))), (3, some (.row bb1 27 #[.slice none 0 0, .slice none 0 0, .int .i64 0, .slice none 0 0, .slice none 0 0])), (4, some (.row bb2 27 #[.slice A la.length ca, .slice A2 lq.length cq_, .int .i64 (-1000), .slice gg.2.1 gg.1 gg.2.2, .slice none 0 0])), (5, some (.own (.slice gg.2.1 gg.1 gg.2.2) 3 1 gg.1 ((fillT (fun _ => (-1 : Int)) 0 gg.1 gg.1).map (Value.int .i64))))] w ∧ ((gg.1 : Int) ≤ (la.length : Int))) (fun gg => la.length - gg.1) (0, none, 0) ?_ ?_
 ·refine ⟨(((((((Fr.nil hF).c hF (i := 6) rfl rfl).c hF (i := 5) rfl rfl).c hF (i := 4) rfl rfl).c hF (i := 1) rfl rfl).c hF (i := 0) rfl rfl).c hF (i := 7) rfl (vi (show (0 : Int) = (0 : Int) from by omega))), (hM.sub (((((Sub.nil.c (k := 5) rfl rfl).c (k := 4) rfl rfl).c (k := 3) rfl rfl).c (k := 2) rfl rfl).c (k := 1) rfl rfl)), (show (0 : Int) ≤ (la.length : Int) from by omega)⟩
 ·intro gg a w hI
  intro K5 hK5
  obtain ⟨k, Gk, gck⟩ := gg
  try dsimp only at hI hK5
  obtain ⟨hF, hM, hz1⟩ := hI
  refine wp_seq_k fun K6 hK6 => ?_
  refine wp_seq_k fun K7 hK7 => ?_
  refine wp_region_lit ?_
  refine sB 4 [(14, .int .i64 (k : Int)), (15, .slice A la.length ca), (16, .int .i64 (la.length : Int)), (17, .bool (decide ((k : Int) < (la.length : Int))))] hF (by kernel_rfl) fun a hF => ?_
  refine wpList_nil ?_
  refine hK7 _ _ ?_
  by_cases hz2 : (k : Int) < (la.length : Int)
  ·skip
   replace hF := hF.c hF (i := 17) (v := .bool true) rfl (bT hz2)
   refine cT hF (by kernel_rfl) (by kernel_rfl) ?_
   refine wp_skip ?_
   refine hK6 _ _ ?_
   refine wp_seq_k fun K8 hK8 => ?_
   refine wp_block ?_
   refine wp_region_lit ?_
   refine sB 1 [(20, .pointer (some ⟨bb2, 3, none⟩))] hF (by kernel_rfl) fun a hF => ?_
   refine wl (eL 21 4 3 (v := .slice Gk k gck) hF hM (by kernel_rfl) rfl rfl (by kernel_rfl) (by kernel_rfl) fun a w hF hM => ?_)
   refine wl (eN 22 6 (t := 3) (fun b => .slice (some ⟨b, 0, none⟩) 1 1) #[.int .i64 (-1)] hF hM (by kernel_rfl) (fun _ => by kernel_rfl) fun bb3 a w hF hM => ?_)
   refine wl (sApp 23 5 (e := 3) (size := 1) (bytes := 8) (z := .int .i64 0) (m := 1) (c := 1) (l := k) (cap := gck) (A := Gk) (news := [.int .i64 (-1)]) (((fillT (fun _ => (-1 : Int)) 0 k k) ++ [-1]).map (Value.int .i64)) hF hM (by kernel_rfl) rfl (by kernel_rfl) (by kernel_rfl) (by kernel_rfl) rfl rfl rfl rfl (roR 6 rfl) (by simp [Value.oneCell']) (by omega) (by decide) (map_snoc' _ _ _) fun AA4 cc4 a w hF hM => ?_)
   refine sB 1 [(24, .pointer (some ⟨bb2, 3, none⟩))] hF (by kernel_rfl) fun a hF => ?_
   refine wl (sStore (i := 4) (off := 3) (cs' := #[.slice A la.length ca, .slice A2 lq.length cq_, .int .i64 (-1000), .slice AA4 (k + 1) cc4, .slice none 0 0]) hF hM (by kernel_rfl) rfl rfl (by kernel_rfl) (by kernel_rfl) rfl (by kernel_rfl) fun w hM => ?_)
   refine wpList_nil ?_
   refine hK8 _ _ ?_
   refine wp_region_lit ?_
   refine sB 1 [(18, .int .i64 (k : Int))] hF (by kernel_rfl) fun a hF => ?_
   refine wl (eP 19 (v0 := .int .i64 (IntKind.i64.wrap ((k : Int) + 1))) (v := .int .i64 ((k : Int) + 1)) hF (by kernel_rfl) (fun _ => by kernel_rfl) (wi (by omega)) fun a hF => ?_)
   refine sB 1 [(7, .int .i64 ((k : Int) + 1))] hF (by kernel_rfl) fun a hF => ?_
   refine wpList_nil ?_
   refine hK5 _ _ ⟨(k + 1, AA4, cc4), ⟨(((((((Fr.nil hF).c hF (i := 6) rfl rfl).c hF (i := 5) rfl rfl).c hF (i := 4) rfl rfl).c hF (i := 1) rfl rfl).c hF (i := 0) rfl rfl).c hF (i := 7) rfl (vi (show ((k : Int) + 1 : Int) = ((k + 1) : Int) from by omega))), (hM.sub (((((Sub.nil.c (k := 5) rfl (congrArg (fun x => Ent.own _ _ _ _ (List.map (Value.int .i64) x)) (fillT_snoc _ _ _ rfl))).c (k := 4) rfl rfl).c (k := 3) rfl rfl).c (k := 2) rfl rfl).c (k := 1) rfl rfl)), (show ((k + 1) : Int) ≤ (la.length : Int) from by omega)⟩, (show la.length - (k + 1) < la.length - k from by omega)⟩
  ·skip
   replace hF := hF.c hF (i := 17) (v := .bool false) rfl (bF hz2)
   refine cF hF (by kernel_rfl) (by kernel_rfl) ?_
   refine wp_exit ?_
   refine hK3 _ _ ?_
   refine wp_seq_k fun K9 hK9 => ?_
   refine wp_seq_k fun K10 hK10 => ?_
   obtain rfl : k = la.length := by omega
   refine wp_region_lit ?_
   refine sB 1 [(8, .int .i64 0)] hF (by kernel_rfl) fun a hF => ?_
   refine wpList_nil ?_
   refine hK10 _ _ ?_
   refine wp_block ?_
   replace hM := hM.addNil 7 80 3
   refine wp_loop_k (G := Nat × Option Addr × Nat) (fun gg a w => Fr 59 [(8, some (.int .i64 (gg.1 : Int))), (1, some (.slice A2 lq.length cq_)), (4, some (.pointer (some ⟨bb1, 0, none⟩))), (6, some (.pointer (some ⟨bb2, 0, none⟩)))] a ∧ Mem w0.heap.size w0 [(1, some (.ro A (flatR la))), (2, some (.ro A2 (flatR lq))), (3, some (.row bb1 27 #[.slice none 0 0, .slice none 0 0, .int .i64 0, .slice none 0 0, .slice none 0 0])), (4, some (.row bb2 27 #[.slice A la.length ca, .slice A2 lq.length cq_, .int .i64 (-1000), .slice Gk la.length gck, .slice gg.2.1 gg.1 gg.2.2])), (5, some (.own (.slice Gk la.length gck) 3 1 la.length ((fillT (fun _ => (-1 : Int)) 0 la.length la.length).map (Value.int .i64)))), (7, some (.own (.slice gg.2.1 gg.1 gg.2.2) 80 3 gg.1 (flatR (fillT (mOf lq) [0, 0, 0] gg.1 gg.1))))] w ∧ ((gg.1 : Int) ≤ (lq.length : Int))) (fun gg => lq.length - gg.1) (0, none, 0) ?_ ?_
   ·refine ⟨(((((Fr.nil hF).c hF (i := 6) rfl rfl).c hF (i := 4) rfl rfl).c hF (i := 1) rfl rfl).c hF (i := 8) rfl (vi (show (0 : Int) = (0 : Int) from by omega))), (hM.sub ((((((Sub.nil.c (k := 7) rfl rfl).c (k := 5) rfl rfl).c (k := 4) rfl rfl).c (k := 3) rfl rfl).c (k := 2) rfl rfl).c (k := 1) rfl rfl)), (show (0 : Int) ≤ (lq.length : Int) from by omega)⟩
   ·intro gg a w hI
    intro K11 hK11
    obtain ⟨q, Gq, gcq⟩ := gg
    try dsimp only at hI hK11
    obtain ⟨hF, hM, hz3⟩ := hI
    refine wp_seq_k fun K12 hK12 => ?_
    refine wp_seq_k fun K13 hK13 => ?_
    refine wp_region_lit ?_
    refine sB 4 [(25, .int .i64 (q : Int)), (26, .slice A2 lq.length cq_), (27, .int .i64 (lq.length : Int)), (28, .bool (decide ((q : Int) < (lq.length : Int))))] hF (by kernel_rfl) fun a hF => ?_
    refine wpList_nil ?_
    refine hK13 _ _ ?_
    by_cases hz4 : (q : Int) < (lq.length : Int)
    ·skip
     replace hF := hF.c hF (i := 28) (v := .bool true) rfl (bT hz4)
     refine cT hF (by kernel_rfl) (by kernel_rfl) ?_
     refine wp_skip ?_
     refine hK12 _ _ ?_
     refine wp_seq_k fun K14 hK14 => ?_
     refine wp_block ?_
     refine wp_seq_k fun K15 hK15 => ?_
     by_cases hz5 : newE (rc lq q 1) (rc lq q 2) (rc lq q 3) (rc lq q 4) = 0
     ·skip
      have hz6 := newE_ok hz5
      refine rF (by kernel_rfl) (by kernel_rfl) (fun S a w => ∃ bb5 : Nat, Fr 59 [(1, some (.slice A2 lq.length cq_)), (4, some (.pointer (some ⟨bb1, 0, none⟩))), (6, some (.pointer (some ⟨bb2, 0, none⟩))), (8, some (.int .i64 (q : Int))), (9, (cond (S.getD 14 false) (some (.pointer (some ⟨bb5, 0, none⟩))) none)), (10, (cond (S.getD 16 false) (some (.int .i64 0)) none)), (31, (cond (S.getD 11 false) (some (.tuple #[.agg #[.int .i64 0, .int .i64 (rc lq q 1 * 1048576), .int .i64 (rc lq q 3 * 1048576)], .int .i64 0])) none)), (32, (cond (S.getD 0 false) (some (.slice A2 lq.length cq_)) none)), (33, (cond (S.getD 1 false) (some (.int .i64 (q : Int))) none)), (34, (cond (S.getD 2 false) (some (.pointer (some (ea A2 (q * 5))))) none)), (35, (cond (S.getD 3 false) (some (.pointer (some (ea A2 (q * 5 + 1))))) none)), (36, (cond (S.getD 4 false) (some (.agg #[.int .i64 (rc lq q 1), .int .i64 (rc lq q 2)])) none)), (37, (cond (S.getD 5 false) (some (.slice A2 lq.length cq_)) none)), (38, (cond (S.getD 6 false) (some (.int .i64 (q : Int))) none)), (39, (cond (S.getD 7 false) (some (.pointer (some (ea A2 (q * 5))))) none)), (40, (cond (S.getD 8 false) (some (.pointer (some (ea A2 (q * 5 + 3))))) none)), (41, (cond (S.getD 9 false) (some (.agg #[.int .i64 (rc lq q 3), .int .i64 (rc lq q 4)])) none)), (42, (cond (S.getD 10 false) (some (.tuple #[.agg #[.int .i64 0, .int .i64 (rc lq q 1 * 1048576), .int .i64 (rc lq q 3 * 1048576)], .int .i64 0])) none)), (43, (cond (S.getD 12 false) (some (.agg #[.int .i64 0, .int .i64 (rc lq q 1 * 1048576), .int .i64 (rc lq q 3 * 1048576)])) none)), (44, (cond (S.getD 13 false) (some (.int .i64 0)) none))] a ∧ Mem w0.heap.size w0 [(1, some (.ro A (flatR la))), (2, some (.ro A2 (flatR lq))), (3, some (.row bb1 27 #[.slice none 0 0, .slice none 0 0, .int .i64 0, .slice none 0 0, .slice none 0 0])), (4, some (.row bb2 27 #[.slice A la.length ca, .slice A2 lq.length cq_, .int .i64 (-1000), .slice Gk la.length gck, .slice Gq q gcq])), (5, some (.own (.slice Gk la.length gck) 3 1 la.length ((fillT (fun _ => (-1 : Int)) 0 la.length la.length).map (Value.int .i64)))), (7, some (.own (.slice Gq q gcq) 80 3 q (flatR (fillT (mOf lq) [0, 0, 0] q q)))), (8, (cond (S.getD 15 false) (some (.row bb5 80 #[.int .i64 0, .int .i64 (rc lq q 1 * 1048576), .int .i64 (rc lq q 3 * 1048576)])) (cond (S.getD 14 false) (some (.row bb5 80 #[.int .i64 0, .int .i64 0, .int .i64 0])) none)))] w) ?_ ?_ ?_
      ·exact ⟨0, (((((((((((((((((((((Fr.nil hF).co hF (i := 44) (by kernel_rfl)).co hF (i := 43) (by kernel_rfl)).co hF (i := 42) (by kernel_rfl)).co hF (i := 41) (by kernel_rfl)).co hF (i := 40) (by kernel_rfl)).co hF (i := 39) (by kernel_rfl)).co hF (i := 38) (by kernel_rfl)).co hF (i := 37) (by kernel_rfl)).co hF (i := 36) (by kernel_rfl)).co hF (i := 35) (by kernel_rfl)).co hF (i := 34) (by kernel_rfl)).co hF (i := 33) (by kernel_rfl)).co hF (i := 32) (by kernel_rfl)).co hF (i := 31) (by kernel_rfl)).co hF (i := 10) (by kernel_rfl)).co hF (i := 9) (by kernel_rfl)).co hF (i := 8) (by kernel_rfl)).co hF (i := 6) (by kernel_rfl)).co hF (i := 4) (by kernel_rfl)).co hF (i := 1) (by kernel_rfl)), hM.drew.sub (((((((Sub.nil.co (k := 8) (by kernel_rfl)).co (k := 7) (by kernel_rfl)).co (k := 5) (by kernel_rfl)).co (k := 4) (by kernel_rfl)).co (k := 3) (by kernel_rfl)).co (k := 2) (by kernel_rfl)).co (k := 1) (by kernel_rfl))⟩
      ·refine stC ?_ (stC ?_ (stC ?_ (stC ?_ (stC ?_ (stC ?_ (stC ?_ (stC ?_ (stC ?_ (stC ?_ (stC ?_ (stC ?_ (stC ?_ (stC ?_ (stC ?_ (stC ?_ (stC ?_ (trivial)))))))))))))))))
       ·intro s0 s1 s2 s3 s4 s5 s6 s7 s8 s9 s10 s11 s12 s13 s14 s15 s16 hc hi hp a w hS
        obtain rfl : s0 = false := hi
        obtain ⟨bb5, hF, hM⟩ := hS
        refine eP 32 (v0 := .slice A2 lq.length cq_) (v := .slice A2 lq.length cq_) hF (by kernel_rfl) (fun _ => by kernel_rfl) rfl fun a hF => ?_
        exact ⟨bb5, ((hF.repl 7 (by kernel_rfl)).cast (by kernel_rfl)), (hM.cast (by kernel_rfl))⟩
       ·intro s0 s1 s2 s3 s4 s5 s6 s7 s8 s9 s10 s11 s12 s13 s14 s15 s16 hc hi hp a w hS
        obtain rfl : s1 = false := hi
        obtain ⟨bb5, hF, hM⟩ := hS
        refine eP 33 (v0 := .int .i64 (q : Int)) (v := .int .i64 (q : Int)) hF (by kernel_rfl) (fun _ => by kernel_rfl) rfl fun a hF => ?_
        exact ⟨bb5, ((hF.repl 8 (by kernel_rfl)).cast (by kernel_rfl)), (hM.cast (by kernel_rfl))⟩
       ·intro s0 s1 s2 s3 s4 s5 s6 s7 s8 s9 s10 s11 s12 s13 s14 s15 s16 hc hi hp a w hS
        obtain rfl : s2 = false := hi
        obtain rfl : s1 = true := hp 1 (by kernel_rfl)
        obtain rfl : s0 = true := hp 0 (by kernel_rfl)
        obtain ⟨bb5, hF, hM⟩ := hS
        refine eM 34 (v := .pointer (some (ea A2 (q * 5)))) hF hM (by kernel_rfl) (yld_ix (kd := .i64) (e := 69) (len := lq.length) (cap := cq_) (i := (q : Int)) (size := 5) (A := A2) hF rfl (by kernel_rfl) (by kernel_rfl) (by kernel_rfl) (by kernel_rfl) (by kernel_rfl) (roK 2 rfl) (by omega) (by omega) (by rw [flatR_length hW2]; (try simp only [List.length_map, List.length_append, List.length_replicate, List.length_set, List.length_cons, List.length_nil, flat2_length, List.length_take]); omega)) fun a w hF hM => ?_
        exact ⟨bb5, ((hF.repl 9 (by kernel_rfl)).cast (by kernel_rfl)), (hM.cast (by kernel_rfl))⟩
       ·intro s0 s1 s2 s3 s4 s5 s6 s7 s8 s9 s10 s11 s12 s13 s14 s15 s16 hc hi hp a w hS
        obtain rfl : s3 = false := hi
        obtain rfl : s2 = true := hp 2 (by kernel_rfl)
        obtain ⟨bb5, hF, hM⟩ := hS
        refine eP 35 (v0 := .pointer (some (ea A2 (q * 5 + 1)))) (v := .pointer (some (ea A2 (q * 5 + 1)))) hF (by kernel_rfl) (fun _ => by kernel_rfl) rfl fun a hF => ?_
        exact ⟨bb5, ((hF.repl 10 (by kernel_rfl)).cast (by kernel_rfl)), (hM.cast (by kernel_rfl))⟩
       ·intro s0 s1 s2 s3 s4 s5 s6 s7 s8 s9 s10 s11 s12 s13 s14 s15 s16 hc hi hp a w hS
        obtain rfl : s4 = false := hi
        obtain rfl : s3 = true := hp 3 (by kernel_rfl)
        obtain ⟨bb5, hF, hM⟩ := hS
        refine eM 36 (v := .agg #[.int .i64 (rc lq q 1), .int .i64 (rc lq q 2)]) hF hM (by kernel_rfl) (yld_roM (A := A2) (j := q * 5 + 1) (us := [.int .i64 (rc lq q 1), .int .i64 (rc lq q 2)]) hF rfl (by kernel_rfl) (by kernel_rfl) (roK 2 rfl) (by kernel_rfl) rfl (rc_sub (k := q) (f := 1) (m := 2) hW2 (by omega) (by decide) rfl)) fun a w hF hM => ?_
        exact ⟨bb5, ((hF.repl 11 (by kernel_rfl)).cast (by kernel_rfl)), (hM.cast (by kernel_rfl))⟩
       ·intro s0 s1 s2 s3 s4 s5 s6 s7 s8 s9 s10 s11 s12 s13 s14 s15 s16 hc hi hp a w hS
        obtain rfl : s5 = false := hi
        obtain ⟨bb5, hF, hM⟩ := hS
        refine eP 37 (v0 := .slice A2 lq.length cq_) (v := .slice A2 lq.length cq_) hF (by kernel_rfl) (fun _ => by kernel_rfl) rfl fun a hF => ?_
        exact ⟨bb5, ((hF.repl 12 (by kernel_rfl)).cast (by kernel_rfl)), (hM.cast (by kernel_rfl))⟩
       ·intro s0 s1 s2 s3 s4 s5 s6 s7 s8 s9 s10 s11 s12 s13 s14 s15 s16 hc hi hp a w hS
        obtain rfl : s6 = false := hi
        obtain ⟨bb5, hF, hM⟩ := hS
        refine eP 38 (v0 := .int .i64 (q : Int)) (v := .int .i64 (q : Int)) hF (by kernel_rfl) (fun _ => by kernel_rfl) rfl fun a hF => ?_
        exact ⟨bb5, ((hF.repl 13 (by kernel_rfl)).cast (by kernel_rfl)), (hM.cast (by kernel_rfl))⟩
       ·intro s0 s1 s2 s3 s4 s5 s6 s7 s8 s9 s10 s11 s12 s13 s14 s15 s16 hc hi hp a w hS
        obtain rfl : s7 = false := hi
        obtain rfl : s6 = true := hp 6 (by kernel_rfl)
        obtain rfl : s5 = true := hp 5 (by kernel_rfl)
        obtain ⟨bb5, hF, hM⟩ := hS
        refine eM 39 (v := .pointer (some (ea A2 (q * 5)))) hF hM (by kernel_rfl) (yld_ix (kd := .i64) (e := 69) (len := lq.length) (cap := cq_) (i := (q : Int)) (size := 5) (A := A2) hF rfl (by kernel_rfl) (by kernel_rfl) (by kernel_rfl) (by kernel_rfl) (by kernel_rfl) (roK 2 rfl) (by omega) (by omega) (by rw [flatR_length hW2]; (try simp only [List.length_map, List.length_append, List.length_replicate, List.length_set, List.length_cons, List.length_nil, flat2_length, List.length_take]); omega)) fun a w hF hM => ?_
        exact ⟨bb5, ((hF.repl 14 (by kernel_rfl)).cast (by kernel_rfl)), (hM.cast (by kernel_rfl))⟩
       ·intro s0 s1 s2 s3 s4 s5 s6 s7 s8 s9 s10 s11 s12 s13 s14 s15 s16 hc hi hp a w hS
        obtain rfl : s8 = false := hi
        obtain rfl : s7 = true := hp 7 (by kernel_rfl)
        obtain ⟨bb5, hF, hM⟩ := hS
        refine eP 40 (v0 := .pointer (some (ea A2 (q * 5 + 3)))) (v := .pointer (some (ea A2 (q * 5 + 3)))) hF (by kernel_rfl) (fun _ => by kernel_rfl) rfl fun a hF => ?_
        exact ⟨bb5, ((hF.repl 15 (by kernel_rfl)).cast (by kernel_rfl)), (hM.cast (by kernel_rfl))⟩
       ·intro s0 s1 s2 s3 s4 s5 s6 s7 s8 s9 s10 s11 s12 s13 s14 s15 s16 hc hi hp a w hS
        obtain rfl : s9 = false := hi
        obtain rfl : s8 = true := hp 8 (by kernel_rfl)
        obtain ⟨bb5, hF, hM⟩ := hS
        refine eM 41 (v := .agg #[.int .i64 (rc lq q 3), .int .i64 (rc lq q 4)]) hF hM (by kernel_rfl) (yld_roM (A := A2) (j := q * 5 + 3) (us := [.int .i64 (rc lq q 3), .int .i64 (rc lq q 4)]) hF rfl (by kernel_rfl) (by kernel_rfl) (roK 2 rfl) (by kernel_rfl) rfl (rc_sub (k := q) (f := 3) (m := 2) hW2 (by omega) (by decide) rfl)) fun a w hF hM => ?_
        exact ⟨bb5, ((hF.repl 16 (by kernel_rfl)).cast (by kernel_rfl)), (hM.cast (by kernel_rfl))⟩
       ·intro s0 s1 s2 s3 s4 s5 s6 s7 s8 s9 s10 s11 s12 s13 s14 s15 s16 hc hi hp a w hS
        obtain rfl : s10 = false := hi
        obtain rfl : s9 = true := hp 9 (by kernel_rfl)
        obtain rfl : s4 = true := hp 4 (by kernel_rfl)
        obtain ⟨bb5, hF, hM⟩ := hS
        refine eM 42 (v := .tuple #[.agg #[.int .i64 0, .int .i64 (rc lq q 1 * 1048576), .int .i64 (rc lq q 3 * 1048576)], .int .i64 0]) hF hM (by kernel_rfl) (yld_call (f := 34) (args := #[.agg #[.int .i64 (rc lq q 1), .int .i64 (rc lq q 2)], .agg #[.int .i64 (rc lq q 3), .int .i64 (rc lq q 4)]]) hF (by kernel_rfl) (fun _ => by kernel_rfl) (fun w hM => refNew_ok (rc lq q 1) (rc lq q 2) (rc lq q 3) (rc lq q 4) w hz5)) fun a w hF hM => ?_
        exact ⟨bb5, ((hF.repl 17 (by kernel_rfl)).cast (by kernel_rfl)), (hM.cast (by kernel_rfl))⟩
       ·intro s0 s1 s2 s3 s4 s5 s6 s7 s8 s9 s10 s11 s12 s13 s14 s15 s16 hc hi hp a w hS
        obtain rfl : s11 = false := hi
        obtain rfl : s10 = true := hp 10 (by kernel_rfl)
        obtain ⟨bb5, hF, hM⟩ := hS
        refine eP 31 (v0 := .tuple #[.agg #[.int .i64 0, .int .i64 (rc lq q 1 * 1048576), .int .i64 (rc lq q 3 * 1048576)], .int .i64 0]) (v := .tuple #[.agg #[.int .i64 0, .int .i64 (rc lq q 1 * 1048576), .int .i64 (rc lq q 3 * 1048576)], .int .i64 0]) hF (by kernel_rfl) (fun _ => by kernel_rfl) rfl fun a hF => ?_
        exact ⟨bb5, ((hF.repl 6 (by kernel_rfl)).cast (by kernel_rfl)), (hM.cast (by kernel_rfl))⟩
       ·intro s0 s1 s2 s3 s4 s5 s6 s7 s8 s9 s10 s11 s12 s13 s14 s15 s16 hc hi hp a w hS
        obtain rfl : s12 = false := hi
        obtain rfl : s11 = true := hp 11 (by kernel_rfl)
        obtain ⟨bb5, hF, hM⟩ := hS
        refine eP 43 (v0 := .agg #[.int .i64 0, .int .i64 (rc lq q 1 * 1048576), .int .i64 (rc lq q 3 * 1048576)]) (v := .agg #[.int .i64 0, .int .i64 (rc lq q 1 * 1048576), .int .i64 (rc lq q 3 * 1048576)]) hF (by kernel_rfl) (fun _ => by kernel_rfl) rfl fun a hF => ?_
        exact ⟨bb5, ((hF.repl 18 (by kernel_rfl)).cast (by kernel_rfl)), (hM.cast (by kernel_rfl))⟩
       ·intro s0 s1 s2 s3 s4 s5 s6 s7 s8 s9 s10 s11 s12 s13 s14 s15 s16 hc hi hp a w hS
        obtain rfl : s13 = false := hi
        obtain rfl : s11 = true := hp 11 (by kernel_rfl)
        obtain ⟨bb5, hF, hM⟩ := hS
        refine eP 44 (v0 := .int .i64 0) (v := .int .i64 0) hF (by kernel_rfl) (fun _ => by kernel_rfl) rfl fun a hF => ?_
        exact ⟨bb5, ((hF.repl 19 (by kernel_rfl)).cast (by kernel_rfl)), (hM.cast (by kernel_rfl))⟩
       ·intro s0 s1 s2 s3 s4 s5 s6 s7 s8 s9 s10 s11 s12 s13 s14 s15 s16 hc hi hp a w hS
        obtain rfl : s14 = false := hi
        obtain rfl : s15 = false := hc.f 15 14 (by kernel_rfl) rfl
        obtain ⟨bb5, hF, hM⟩ := hS
        refine eN 9 8 (t := 80) (fun b => .pointer (some ⟨b, 0, none⟩)) #[.int .i64 0, .int .i64 0, .int .i64 0] hF hM (by kernel_rfl) (fun _ => by kernel_rfl) fun bb5 a w hF hM => ?_
        exact ⟨bb5, ((hF.repl 4 (by kernel_rfl)).cast (by kernel_rfl)), ((hM.repl 6 (by kernel_rfl)).cast (by kernel_rfl))⟩
       ·intro s0 s1 s2 s3 s4 s5 s6 s7 s8 s9 s10 s11 s12 s13 s14 s15 s16 hc hi hp a w hS
        obtain rfl : s15 = false := hi
        obtain rfl : s14 = true := hp 14 (by kernel_rfl)
        obtain rfl : s12 = true := hp 12 (by kernel_rfl)
        obtain ⟨bb5, hF, hM⟩ := hS
        refine sStore (i := 8) (off := 0) (cs' := #[.int .i64 0, .int .i64 (rc lq q 1 * 1048576), .int .i64 (rc lq q 3 * 1048576)]) hF hM (by kernel_rfl) rfl rfl (by kernel_rfl) (by kernel_rfl) rfl (by kernel_rfl) fun w hM => ?_
        exact ⟨bb5, (hF.cast (by kernel_rfl)), ((hM.repl 6 (by kernel_rfl)).cast (by kernel_rfl))⟩
       ·intro s0 s1 s2 s3 s4 s5 s6 s7 s8 s9 s10 s11 s12 s13 s14 s15 s16 hc hi hp a w hS
        obtain rfl : s16 = false := hi
        obtain rfl : s13 = true := hp 13 (by kernel_rfl)
        obtain ⟨bb5, hF, hM⟩ := hS
        refine eP 10 (v0 := .int .i64 0) (v := .int .i64 0) hF (by kernel_rfl) (fun _ => by kernel_rfl) rfl fun a hF => ?_
        exact ⟨bb5, ((hF.repl 5 (by kernel_rfl)).cast (by kernel_rfl)), (hM.cast (by kernel_rfl))⟩
      ·intro a w hS
       obtain ⟨bb5, hF, hM⟩ := hS
       replace hF : Fr 59 [(1, some (.slice A2 lq.length cq_)), (4, some (.pointer (some ⟨bb1, 0, none⟩))), (6, some (.pointer (some ⟨bb2, 0, none⟩))), (8, some (.int .i64 (q : Int))), (9, some (.pointer (some ⟨bb5, 0, none⟩))), (10, some (.int .i64 0)), (31, some (.tuple #[.agg #[.int .i64 0, .int .i64 (rc lq q 1 * 1048576), .int .i64 (rc lq q 3 * 1048576)], .int .i64 0])), (32, some (.slice A2 lq.length cq_)), (33, some (.int .i64 (q : Int))), (34, some (.pointer (some (ea A2 (q * 5))))), (35, some (.pointer (some (ea A2 (q * 5 + 1))))), (36, some (.agg #[.int .i64 (rc lq q 1), .int .i64 (rc lq q 2)])), (37, some (.slice A2 lq.length cq_)), (38, some (.int .i64 (q : Int))), (39, some (.pointer (some (ea A2 (q * 5))))), (40, some (.pointer (some (ea A2 (q * 5 + 3))))), (41, some (.agg #[.int .i64 (rc lq q 3), .int .i64 (rc lq q 4)])), (42, some (.tuple #[.agg #[.int .i64 0, .int .i64 (rc lq q 1 * 1048576), .int .i64 (rc lq q 3 * 1048576)], .int .i64 0])), (43, some (.agg #[.int .i64 0, .int .i64 (rc lq q 1 * 1048576), .int .i64 (rc lq q 3 * 1048576)])), (44, some (.int .i64 0))] a := hF.cast (by kernel_rfl)
       replace hM : Mem w0.heap.size w0 [(1, some (.ro A (flatR la))), (2, some (.ro A2 (flatR lq))), (3, some (.row bb1 27 #[.slice none 0 0, .slice none 0 0, .int .i64 0, .slice none 0 0, .slice none 0 0])), (4, some (.row bb2 27 #[.slice A la.length ca, .slice A2 lq.length cq_, .int .i64 (-1000), .slice Gk la.length gck, .slice Gq q gcq])), (5, some (.own (.slice Gk la.length gck) 3 1 la.length ((fillT (fun _ => (-1 : Int)) 0 la.length la.length).map (Value.int .i64)))), (7, some (.own (.slice Gq q gcq) 80 3 q (flatR (fillT (mOf lq) [0, 0, 0] q q)))), (8, some (.row bb5 80 #[.int .i64 0, .int .i64 (rc lq q 1 * 1048576), .int .i64 (rc lq q 3 * 1048576)]))] w := hM.cast (by kernel_rfl)
       refine hK15 _ _ ?_
       refine wp_seq_k fun K16 hK16 => ?_
       refine wp_seq_k fun K17 hK17 => ?_
       refine wp_region_lit ?_
       refine sB 1 [(45, .int .i64 0)] hF (by kernel_rfl) fun a hF => ?_
       refine wl (eP 46 (v0 := .bool (!decide (0 = 0))) (v := .bool false) hF (by kernel_rfl) (fun _ => by kernel_rfl) (nT (by omega)) fun a hF => ?_)
       refine wpList_nil ?_
       refine hK17 _ _ ?_
       refine cF hF (by kernel_rfl) (by kernel_rfl) ?_
       refine wp_skip ?_
       refine hK16 _ _ ?_
       refine wp_region_lit ?_
       refine sB 1 [(48, .pointer (some ⟨bb2, 4, none⟩))] hF (by kernel_rfl) fun a hF => ?_
       refine wl (eL 49 4 4 (v := .slice Gq q gcq) hF hM (by kernel_rfl) rfl rfl (by kernel_rfl) (by kernel_rfl) fun a w hF hM => ?_)
       refine wl (eL 50 8 0 (v := .agg #[.int .i64 0, .int .i64 (rc lq q 1 * 1048576), .int .i64 (rc lq q 3 * 1048576)]) hF hM (by kernel_rfl) rfl rfl (by kernel_rfl) (by kernel_rfl) fun a w hF hM => ?_)
       refine wl (eN 51 9 (t := 80) (fun b => .slice (some ⟨b, 0, none⟩) 1 1) #[.int .i64 0, .int .i64 (rc lq q 1 * 1048576), .int .i64 (rc lq q 3 * 1048576)] hF hM (by kernel_rfl) (fun _ => by kernel_rfl) fun bb6 a w hF hM => ?_)
       refine wl (sApp 52 7 (e := 80) (size := 3) (bytes := 24) (z := .agg #[.int .i64 0, .int .i64 0, .int .i64 0]) (m := 1) (c := 1) (l := q) (cap := gcq) (A := Gq) (news := [.int .i64 0, .int .i64 (rc lq q 1 * 1048576), .int .i64 (rc lq q 3 * 1048576)]) (flatR ((fillT (mOf lq) [0, 0, 0] q q) ++ [[0, rc lq q 1 * 1048576, rc lq q 3 * 1048576]])) hF hM (by kernel_rfl) rfl (by kernel_rfl) (by kernel_rfl) (by kernel_rfl) rfl rfl rfl rfl (roR 9 rfl) (by simp [Value.oneCell']) (by omega) (by decide) (flatR_append (fillT (mOf lq) [0, 0, 0] q q) [[0, rc lq q 1 * 1048576, rc lq q 3 * 1048576]]).symm fun AA7 cc7 a w hF hM => ?_)
       refine sB 1 [(53, .pointer (some ⟨bb2, 4, none⟩))] hF (by kernel_rfl) fun a hF => ?_
       refine wl (sStore (i := 4) (off := 4) (cs' := #[.slice A la.length ca, .slice A2 lq.length cq_, .int .i64 (-1000), .slice Gk la.length gck, .slice AA7 (q + 1) cc7]) hF hM (by kernel_rfl) rfl rfl (by kernel_rfl) (by kernel_rfl) rfl (by kernel_rfl) fun w hM => ?_)
       refine wpList_nil ?_
       refine hK14 _ _ ?_
       refine wp_region_lit ?_
       refine sB 1 [(29, .int .i64 (q : Int))] hF (by kernel_rfl) fun a hF => ?_
       refine wl (eP 30 (v0 := .int .i64 (IntKind.i64.wrap ((q : Int) + 1))) (v := .int .i64 ((q : Int) + 1)) hF (by kernel_rfl) (fun _ => by kernel_rfl) (wi (by omega)) fun a hF => ?_)
       refine sB 1 [(8, .int .i64 ((q : Int) + 1))] hF (by kernel_rfl) fun a hF => ?_
       refine wpList_nil ?_
       refine hK11 _ _ ⟨(q + 1, AA7, cc7), ⟨(((((Fr.nil hF).c hF (i := 6) rfl rfl).c hF (i := 4) rfl rfl).c hF (i := 1) rfl rfl).c hF (i := 8) rfl (vi (show ((q : Int) + 1 : Int) = ((q + 1) : Int) from by omega))), (hM.sub ((((((Sub.nil.c (k := 7) rfl (congrArg (fun x => Ent.own _ _ _ _ (flatR x)) (fillT_snoc (mOf lq) _ _ rfl))).c (k := 5) rfl rfl).c (k := 4) rfl rfl).c (k := 3) rfl rfl).c (k := 2) rfl rfl).c (k := 1) rfl rfl)), (show ((q + 1) : Int) ≤ (lq.length : Int) from by omega)⟩, (show lq.length - (q + 1) < lq.length - q from by omega)⟩
     ·skip
      refine rF (by kernel_rfl) (by kernel_rfl) (fun S a w => ∃ bb8 : Nat, Fr 59 [(1, some (.slice A2 lq.length cq_)), (4, some (.pointer (some ⟨bb1, 0, none⟩))), (6, some (.pointer (some ⟨bb2, 0, none⟩))), (8, some (.int .i64 (q : Int))), (9, (cond (S.getD 14 false) (some (.pointer (some ⟨bb8, 0, none⟩))) none)), (10, (cond (S.getD 16 false) (some (.int .i64 (newE (rc lq q 1) (rc lq q 2) (rc lq q 3) (rc lq q 4)))) none)), (31, (cond (S.getD 11 false) (some (.tuple #[.agg #[.int .i64 0, .int .i64 (newC (rc lq q 1) (rc lq q 2) (rc lq q 3) (rc lq q 4)), .int .i64 (newP (rc lq q 1) (rc lq q 2) (rc lq q 3) (rc lq q 4))], .int .i64 (newE (rc lq q 1) (rc lq q 2) (rc lq q 3) (rc lq q 4))])) none)), (32, (cond (S.getD 0 false) (some (.slice A2 lq.length cq_)) none)), (33, (cond (S.getD 1 false) (some (.int .i64 (q : Int))) none)), (34, (cond (S.getD 2 false) (some (.pointer (some (ea A2 (q * 5))))) none)), (35, (cond (S.getD 3 false) (some (.pointer (some (ea A2 (q * 5 + 1))))) none)), (36, (cond (S.getD 4 false) (some (.agg #[.int .i64 (rc lq q 1), .int .i64 (rc lq q 2)])) none)), (37, (cond (S.getD 5 false) (some (.slice A2 lq.length cq_)) none)), (38, (cond (S.getD 6 false) (some (.int .i64 (q : Int))) none)), (39, (cond (S.getD 7 false) (some (.pointer (some (ea A2 (q * 5))))) none)), (40, (cond (S.getD 8 false) (some (.pointer (some (ea A2 (q * 5 + 3))))) none)), (41, (cond (S.getD 9 false) (some (.agg #[.int .i64 (rc lq q 3), .int .i64 (rc lq q 4)])) none)), (42, (cond (S.getD 10 false) (some (.tuple #[.agg #[.int .i64 0, .int .i64 (newC (rc lq q 1) (rc lq q 2) (rc lq q 3) (rc lq q 4)), .int .i64 (newP (rc lq q 1) (rc lq q 2) (rc lq q 3) (rc lq q 4))], .int .i64 (newE (rc lq q 1) (rc lq q 2) (rc lq q 3) (rc lq q 4))])) none)), (43, (cond (S.getD 12 false) (some (.agg #[.int .i64 0, .int .i64 (newC (rc lq q 1) (rc lq q 2) (rc lq q 3) (rc lq q 4)), .int .i64 (newP (rc lq q 1) (rc lq q 2) (rc lq q 3) (rc lq q 4))])) none)), (44, (cond (S.getD 13 false) (some (.int .i64 (newE (rc lq q 1) (rc lq q 2) (rc lq q 3) (rc lq q 4)))) none))] a ∧ Mem w0.heap.size w0 [(1, some (.ro A (flatR la))), (2, some (.ro A2 (flatR lq))), (3, some (.row bb1 27 #[.slice none 0 0, .slice none 0 0, .int .i64 0, .slice none 0 0, .slice none 0 0])), (4, some (.row bb2 27 #[.slice A la.length ca, .slice A2 lq.length cq_, .int .i64 (-1000), .slice Gk la.length gck, .slice Gq q gcq])), (5, some (.own (.slice Gk la.length gck) 3 1 la.length ((fillT (fun _ => (-1 : Int)) 0 la.length la.length).map (Value.int .i64)))), (7, some (.own (.slice Gq q gcq) 80 3 q (flatR (fillT (mOf lq) [0, 0, 0] q q)))), (10, (cond (S.getD 15 false) (some (.row bb8 80 #[.int .i64 0, .int .i64 (newC (rc lq q 1) (rc lq q 2) (rc lq q 3) (rc lq q 4)), .int .i64 (newP (rc lq q 1) (rc lq q 2) (rc lq q 3) (rc lq q 4))])) (cond (S.getD 14 false) (some (.row bb8 80 #[.int .i64 0, .int .i64 0, .int .i64 0])) none)))] w) ?_ ?_ ?_
      ·exact ⟨0, (((((((((((((((((((((Fr.nil hF).co hF (i := 44) (by kernel_rfl)).co hF (i := 43) (by kernel_rfl)).co hF (i := 42) (by kernel_rfl)).co hF (i := 41) (by kernel_rfl)).co hF (i := 40) (by kernel_rfl)).co hF (i := 39) (by kernel_rfl)).co hF (i := 38) (by kernel_rfl)).co hF (i := 37) (by kernel_rfl)).co hF (i := 36) (by kernel_rfl)).co hF (i := 35) (by kernel_rfl)).co hF (i := 34) (by kernel_rfl)).co hF (i := 33) (by kernel_rfl)).co hF (i := 32) (by kernel_rfl)).co hF (i := 31) (by kernel_rfl)).co hF (i := 10) (by kernel_rfl)).co hF (i := 9) (by kernel_rfl)).co hF (i := 8) (by kernel_rfl)).co hF (i := 6) (by kernel_rfl)).co hF (i := 4) (by kernel_rfl)).co hF (i := 1) (by kernel_rfl)), hM.drew.sub (((((((Sub.nil.co (k := 10) (by kernel_rfl)).co (k := 7) (by kernel_rfl)).co (k := 5) (by kernel_rfl)).co (k := 4) (by kernel_rfl)).co (k := 3) (by kernel_rfl)).co (k := 2) (by kernel_rfl)).co (k := 1) (by kernel_rfl))⟩
      ·refine stC ?_ (stC ?_ (stC ?_ (stC ?_ (stC ?_ (stC ?_ (stC ?_ (stC ?_ (stC ?_ (stC ?_ (stC ?_ (stC ?_ (stC ?_ (stC ?_ (stC ?_ (stC ?_ (stC ?_ (trivial)))))))))))))))))
       ·intro s0 s1 s2 s3 s4 s5 s6 s7 s8 s9 s10 s11 s12 s13 s14 s15 s16 hc hi hp a w hS
        obtain rfl : s0 = false := hi
        obtain ⟨bb8, hF, hM⟩ := hS
        refine eP 32 (v0 := .slice A2 lq.length cq_) (v := .slice A2 lq.length cq_) hF (by kernel_rfl) (fun _ => by kernel_rfl) rfl fun a hF => ?_
        exact ⟨bb8, ((hF.repl 7 (by kernel_rfl)).cast (by kernel_rfl)), (hM.cast (by kernel_rfl))⟩
       ·intro s0 s1 s2 s3 s4 s5 s6 s7 s8 s9 s10 s11 s12 s13 s14 s15 s16 hc hi hp a w hS
        obtain rfl : s1 = false := hi
        obtain ⟨bb8, hF, hM⟩ := hS
        refine eP 33 (v0 := .int .i64 (q : Int)) (v := .int .i64 (q : Int)) hF (by kernel_rfl) (fun _ => by kernel_rfl) rfl fun a hF => ?_
        exact ⟨bb8, ((hF.repl 8 (by kernel_rfl)).cast (by kernel_rfl)), (hM.cast (by kernel_rfl))⟩
       ·intro s0 s1 s2 s3 s4 s5 s6 s7 s8 s9 s10 s11 s12 s13 s14 s15 s16 hc hi hp a w hS
        obtain rfl : s2 = false := hi
        obtain rfl : s1 = true := hp 1 (by kernel_rfl)
        obtain rfl : s0 = true := hp 0 (by kernel_rfl)
        obtain ⟨bb8, hF, hM⟩ := hS
        refine eM 34 (v := .pointer (some (ea A2 (q * 5)))) hF hM (by kernel_rfl) (yld_ix (kd := .i64) (e := 69) (len := lq.length) (cap := cq_) (i := (q : Int)) (size := 5) (A := A2) hF rfl (by kernel_rfl) (by kernel_rfl) (by kernel_rfl) (by kernel_rfl) (by kernel_rfl) (roK 2 rfl) (by omega) (by omega) (by rw [flatR_length hW2]; (try simp only [List.length_map, List.length_append, List.length_replicate, List.length_set, List.length_cons, List.length_nil, flat2_length, List.length_take]); omega)) fun a w hF hM => ?_
        exact ⟨bb8, ((hF.repl 9 (by kernel_rfl)).cast (by kernel_rfl)), (hM.cast (by kernel_rfl))⟩
       ·intro s0 s1 s2 s3 s4 s5 s6 s7 s8 s9 s10 s11 s12 s13 s14 s15 s16 hc hi hp a w hS
        obtain rfl : s3 = false := hi
        obtain rfl : s2 = true := hp 2 (by kernel_rfl)
        obtain ⟨bb8, hF, hM⟩ := hS
        refine eP 35 (v0 := .pointer (some (ea A2 (q * 5 + 1)))) (v := .pointer (some (ea A2 (q * 5 + 1)))) hF (by kernel_rfl) (fun _ => by kernel_rfl) rfl fun a hF => ?_
        exact ⟨bb8, ((hF.repl 10 (by kernel_rfl)).cast (by kernel_rfl)), (hM.cast (by kernel_rfl))⟩
       ·intro s0 s1 s2 s3 s4 s5 s6 s7 s8 s9 s10 s11 s12 s13 s14 s15 s16 hc hi hp a w hS
        obtain rfl : s4 = false := hi
        obtain rfl : s3 = true := hp 3 (by kernel_rfl)
        obtain ⟨bb8, hF, hM⟩ := hS
        refine eM 36 (v := .agg #[.int .i64 (rc lq q 1), .int .i64 (rc lq q 2)]) hF hM (by kernel_rfl) (yld_roM (A := A2) (j := q * 5 + 1) (us := [.int .i64 (rc lq q 1), .int .i64 (rc lq q 2)]) hF rfl (by kernel_rfl) (by kernel_rfl) (roK 2 rfl) (by kernel_rfl) rfl (rc_sub (k := q) (f := 1) (m := 2) hW2 (by omega) (by decide) rfl)) fun a w hF hM => ?_
        exact ⟨bb8, ((hF.repl 11 (by kernel_rfl)).cast (by kernel_rfl)), (hM.cast (by kernel_rfl))⟩
       ·intro s0 s1 s2 s3 s4 s5 s6 s7 s8 s9 s10 s11 s12 s13 s14 s15 s16 hc hi hp a w hS
        obtain rfl : s5 = false := hi
        obtain ⟨bb8, hF, hM⟩ := hS
        refine eP 37 (v0 := .slice A2 lq.length cq_) (v := .slice A2 lq.length cq_) hF (by kernel_rfl) (fun _ => by kernel_rfl) rfl fun a hF => ?_
        exact ⟨bb8, ((hF.repl 12 (by kernel_rfl)).cast (by kernel_rfl)), (hM.cast (by kernel_rfl))⟩
       ·intro s0 s1 s2 s3 s4 s5 s6 s7 s8 s9 s10 s11 s12 s13 s14 s15 s16 hc hi hp a w hS
        obtain rfl : s6 = false := hi
        obtain ⟨bb8, hF, hM⟩ := hS
        refine eP 38 (v0 := .int .i64 (q : Int)) (v := .int .i64 (q : Int)) hF (by kernel_rfl) (fun _ => by kernel_rfl) rfl fun a hF => ?_
        exact ⟨bb8, ((hF.repl 13 (by kernel_rfl)).cast (by kernel_rfl)), (hM.cast (by kernel_rfl))⟩
       ·intro s0 s1 s2 s3 s4 s5 s6 s7 s8 s9 s10 s11 s12 s13 s14 s15 s16 hc hi hp a w hS
        obtain rfl : s7 = false := hi
        obtain rfl : s6 = true := hp 6 (by kernel_rfl)
        obtain rfl : s5 = true := hp 5 (by kernel_rfl)
        obtain ⟨bb8, hF, hM⟩ := hS
        refine eM 39 (v := .pointer (some (ea A2 (q * 5)))) hF hM (by kernel_rfl) (yld_ix (kd := .i64) (e := 69) (len := lq.length) (cap := cq_) (i := (q : Int)) (size := 5) (A := A2) hF rfl (by kernel_rfl) (by kernel_rfl) (by kernel_rfl) (by kernel_rfl) (by kernel_rfl) (roK 2 rfl) (by omega) (by omega) (by rw [flatR_length hW2]; (try simp only [List.length_map, List.length_append, List.length_replicate, List.length_set, List.length_cons, List.length_nil, flat2_length, List.length_take]); omega)) fun a w hF hM => ?_
        exact ⟨bb8, ((hF.repl 14 (by kernel_rfl)).cast (by kernel_rfl)), (hM.cast (by kernel_rfl))⟩
       ·intro s0 s1 s2 s3 s4 s5 s6 s7 s8 s9 s10 s11 s12 s13 s14 s15 s16 hc hi hp a w hS
        obtain rfl : s8 = false := hi
        obtain rfl : s7 = true := hp 7 (by kernel_rfl)
        obtain ⟨bb8, hF, hM⟩ := hS
        refine eP 40 (v0 := .pointer (some (ea A2 (q * 5 + 3)))) (v := .pointer (some (ea A2 (q * 5 + 3)))) hF (by kernel_rfl) (fun _ => by kernel_rfl) rfl fun a hF => ?_
        exact ⟨bb8, ((hF.repl 15 (by kernel_rfl)).cast (by kernel_rfl)), (hM.cast (by kernel_rfl))⟩
       ·intro s0 s1 s2 s3 s4 s5 s6 s7 s8 s9 s10 s11 s12 s13 s14 s15 s16 hc hi hp a w hS
        obtain rfl : s9 = false := hi
        obtain rfl : s8 = true := hp 8 (by kernel_rfl)
        obtain ⟨bb8, hF, hM⟩ := hS
        refine eM 41 (v := .agg #[.int .i64 (rc lq q 3), .int .i64 (rc lq q 4)]) hF hM (by kernel_rfl) (yld_roM (A := A2) (j := q * 5 + 3) (us := [.int .i64 (rc lq q 3), .int .i64 (rc lq q 4)]) hF rfl (by kernel_rfl) (by kernel_rfl) (roK 2 rfl) (by kernel_rfl) rfl (rc_sub (k := q) (f := 3) (m := 2) hW2 (by omega) (by decide) rfl)) fun a w hF hM => ?_
        exact ⟨bb8, ((hF.repl 16 (by kernel_rfl)).cast (by kernel_rfl)), (hM.cast (by kernel_rfl))⟩
       ·intro s0 s1 s2 s3 s4 s5 s6 s7 s8 s9 s10 s11 s12 s13 s14 s15 s16 hc hi hp a w hS
        obtain rfl : s10 = false := hi
        obtain rfl : s9 = true := hp 9 (by kernel_rfl)
        obtain rfl : s4 = true := hp 4 (by kernel_rfl)
        obtain ⟨bb8, hF, hM⟩ := hS
        refine eM 42 (v := .tuple #[.agg #[.int .i64 0, .int .i64 (newC (rc lq q 1) (rc lq q 2) (rc lq q 3) (rc lq q 4)), .int .i64 (newP (rc lq q 1) (rc lq q 2) (rc lq q 3) (rc lq q 4))], .int .i64 (newE (rc lq q 1) (rc lq q 2) (rc lq q 3) (rc lq q 4))]) hF hM (by kernel_rfl) (yld_call (f := 34) (args := #[.agg #[.int .i64 (rc lq q 1), .int .i64 (rc lq q 2)], .agg #[.int .i64 (rc lq q 3), .int .i64 (rc lq q 4)]]) hF (by kernel_rfl) (fun _ => by kernel_rfl) (fun w hM => refNew_w (rc lq q 1) (rc lq q 2) (rc lq q 3) (rc lq q 4) w)) fun a w hF hM => ?_
        exact ⟨bb8, ((hF.repl 17 (by kernel_rfl)).cast (by kernel_rfl)), (hM.cast (by kernel_rfl))⟩
       ·intro s0 s1 s2 s3 s4 s5 s6 s7 s8 s9 s10 s11 s12 s13 s14 s15 s16 hc hi hp a w hS
        obtain rfl : s11 = false := hi
        obtain rfl : s10 = true := hp 10 (by kernel_rfl)
        obtain ⟨bb8, hF, hM⟩ := hS
        refine eP 31 (v0 := .tuple #[.agg #[.int .i64 0, .int .i64 (newC (rc lq q 1) (rc lq q 2) (rc lq q 3) (rc lq q 4)), .int .i64 (newP (rc lq q 1) (rc lq q 2) (rc lq q 3) (rc lq q 4))], .int .i64 (newE (rc lq q 1) (rc lq q 2) (rc lq q 3) (rc lq q 4))]) (v := .tuple #[.agg #[.int .i64 0, .int .i64 (newC (rc lq q 1) (rc lq q 2) (rc lq q 3) (rc lq q 4)), .int .i64 (newP (rc lq q 1) (rc lq q 2) (rc lq q 3) (rc lq q 4))], .int .i64 (newE (rc lq q 1) (rc lq q 2) (rc lq q 3) (rc lq q 4))]) hF (by kernel_rfl) (fun _ => by kernel_rfl) rfl fun a hF => ?_
        exact ⟨bb8, ((hF.repl 6 (by kernel_rfl)).cast (by kernel_rfl)), (hM.cast (by kernel_rfl))⟩
       ·intro s0 s1 s2 s3 s4 s5 s6 s7 s8 s9 s10 s11 s12 s13 s14 s15 s16 hc hi hp a w hS
        obtain rfl : s12 = false := hi
        obtain rfl : s11 = true := hp 11 (by kernel_rfl)
        obtain ⟨bb8, hF, hM⟩ := hS
        refine eP 43 (v0 := .agg #[.int .i64 0, .int .i64 (newC (rc lq q 1) (rc lq q 2) (rc lq q 3) (rc lq q 4)), .int .i64 (newP (rc lq q 1) (rc lq q 2) (rc lq q 3) (rc lq q 4))]) (v := .agg #[.int .i64 0, .int .i64 (newC (rc lq q 1) (rc lq q 2) (rc lq q 3) (rc lq q 4)), .int .i64 (newP (rc lq q 1) (rc lq q 2) (rc lq q 3) (rc lq q 4))]) hF (by kernel_rfl) (fun _ => by kernel_rfl) rfl fun a hF => ?_
        exact ⟨bb8, ((hF.repl 18 (by kernel_rfl)).cast (by kernel_rfl)), (hM.cast (by kernel_rfl))⟩
       ·intro s0 s1 s2 s3 s4 s5 s6 s7 s8 s9 s10 s11 s12 s13 s14 s15 s16 hc hi hp a w hS
        obtain rfl : s13 = false := hi
        obtain rfl : s11 = true := hp 11 (by kernel_rfl)
        obtain ⟨bb8, hF, hM⟩ := hS
        refine eP 44 (v0 := .int .i64 (newE (rc lq q 1) (rc lq q 2) (rc lq q 3) (rc lq q 4))) (v := .int .i64 (newE (rc lq q 1) (rc lq q 2) (rc lq q 3) (rc lq q 4))) hF (by kernel_rfl) (fun _ => by kernel_rfl) rfl fun a hF => ?_
        exact ⟨bb8, ((hF.repl 19 (by kernel_rfl)).cast (by kernel_rfl)), (hM.cast (by kernel_rfl))⟩
       ·intro s0 s1 s2 s3 s4 s5 s6 s7 s8 s9 s10 s11 s12 s13 s14 s15 s16 hc hi hp a w hS
        obtain rfl : s14 = false := hi
        obtain rfl : s15 = false := hc.f 15 14 (by kernel_rfl) rfl
        obtain ⟨bb8, hF, hM⟩ := hS
        refine eN 9 10 (t := 80) (fun b => .pointer (some ⟨b, 0, none⟩)) #[.int .i64 0, .int .i64 0, .int .i64 0] hF hM (by kernel_rfl) (fun _ => by kernel_rfl) fun bb8 a w hF hM => ?_
        exact ⟨bb8, ((hF.repl 4 (by kernel_rfl)).cast (by kernel_rfl)), ((hM.repl 6 (by kernel_rfl)).cast (by kernel_rfl))⟩
       ·intro s0 s1 s2 s3 s4 s5 s6 s7 s8 s9 s10 s11 s12 s13 s14 s15 s16 hc hi hp a w hS
        obtain rfl : s15 = false := hi
        obtain rfl : s14 = true := hp 14 (by kernel_rfl)
        obtain rfl : s12 = true := hp 12 (by kernel_rfl)
        obtain ⟨bb8, hF, hM⟩ := hS
        refine sStore (i := 10) (off := 0) (cs' := #[.int .i64 0, .int .i64 (newC (rc lq q 1) (rc lq q 2) (rc lq q 3) (rc lq q 4)), .int .i64 (newP (rc lq q 1) (rc lq q 2) (rc lq q 3) (rc lq q 4))]) hF hM (by kernel_rfl) rfl rfl (by kernel_rfl) (by kernel_rfl) rfl (by kernel_rfl) fun w hM => ?_
        exact ⟨bb8, (hF.cast (by kernel_rfl)), ((hM.repl 6 (by kernel_rfl)).cast (by kernel_rfl))⟩
       ·intro s0 s1 s2 s3 s4 s5 s6 s7 s8 s9 s10 s11 s12 s13 s14 s15 s16 hc hi hp a w hS
        obtain rfl : s16 = false := hi
        obtain rfl : s13 = true := hp 13 (by kernel_rfl)
        obtain ⟨bb8, hF, hM⟩ := hS
        refine eP 10 (v0 := .int .i64 (newE (rc lq q 1) (rc lq q 2) (rc lq q 3) (rc lq q 4))) (v := .int .i64 (newE (rc lq q 1) (rc lq q 2) (rc lq q 3) (rc lq q 4))) hF (by kernel_rfl) (fun _ => by kernel_rfl) rfl fun a hF => ?_
        exact ⟨bb8, ((hF.repl 5 (by kernel_rfl)).cast (by kernel_rfl)), (hM.cast (by kernel_rfl))⟩
      ·intro a w hS
       obtain ⟨bb8, hF, hM⟩ := hS
       replace hF : Fr 59 [(1, some (.slice A2 lq.length cq_)), (4, some (.pointer (some ⟨bb1, 0, none⟩))), (6, some (.pointer (some ⟨bb2, 0, none⟩))), (8, some (.int .i64 (q : Int))), (9, some (.pointer (some ⟨bb8, 0, none⟩))), (10, some (.int .i64 (newE (rc lq q 1) (rc lq q 2) (rc lq q 3) (rc lq q 4)))), (31, some (.tuple #[.agg #[.int .i64 0, .int .i64 (newC (rc lq q 1) (rc lq q 2) (rc lq q 3) (rc lq q 4)), .int .i64 (newP (rc lq q 1) (rc lq q 2) (rc lq q 3) (rc lq q 4))], .int .i64 (newE (rc lq q 1) (rc lq q 2) (rc lq q 3) (rc lq q 4))])), (32, some (.slice A2 lq.length cq_)), (33, some (.int .i64 (q : Int))), (34, some (.pointer (some (ea A2 (q * 5))))), (35, some (.pointer (some (ea A2 (q * 5 + 1))))), (36, some (.agg #[.int .i64 (rc lq q 1), .int .i64 (rc lq q 2)])), (37, some (.slice A2 lq.length cq_)), (38, some (.int .i64 (q : Int))), (39, some (.pointer (some (ea A2 (q * 5))))), (40, some (.pointer (some (ea A2 (q * 5 + 3))))), (41, some (.agg #[.int .i64 (rc lq q 3), .int .i64 (rc lq q 4)])), (42, some (.tuple #[.agg #[.int .i64 0, .int .i64 (newC (rc lq q 1) (rc lq q 2) (rc lq q 3) (rc lq q 4)), .int .i64 (newP (rc lq q 1) (rc lq q 2) (rc lq q 3) (rc lq q 4))], .int .i64 (newE (rc lq q 1) (rc lq q 2) (rc lq q 3) (rc lq q 4))])), (43, some (.agg #[.int .i64 0, .int .i64 (newC (rc lq q 1) (rc lq q 2) (rc lq q 3) (rc lq q 4)), .int .i64 (newP (rc lq q 1) (rc lq q 2) (rc lq q 3) (rc lq q 4))])), (44, some (.int .i64 (newE (rc lq q 1) (rc lq q 2) (rc lq q 3) (rc lq q 4))))] a := hF.cast (by kernel_rfl)
       replace hM : Mem w0.heap.size w0 [(1, some (.ro A (flatR la))), (2, some (.ro A2 (flatR lq))), (3, some (.row bb1 27 #[.slice none 0 0, .slice none 0 0, .int .i64 0, .slice none 0 0, .slice none 0 0])), (4, some (.row bb2 27 #[.slice A la.length ca, .slice A2 lq.length cq_, .int .i64 (-1000), .slice Gk la.length gck, .slice Gq q gcq])), (5, some (.own (.slice Gk la.length gck) 3 1 la.length ((fillT (fun _ => (-1 : Int)) 0 la.length la.length).map (Value.int .i64)))), (7, some (.own (.slice Gq q gcq) 80 3 q (flatR (fillT (mOf lq) [0, 0, 0] q q)))), (10, some (.row bb8 80 #[.int .i64 0, .int .i64 (newC (rc lq q 1) (rc lq q 2) (rc lq q 3) (rc lq q 4)), .int .i64 (newP (rc lq q 1) (rc lq q 2) (rc lq q 3) (rc lq q 4))]))] w := hM.cast (by kernel_rfl)
       refine hK15 _ _ ?_
       refine wp_seq_k fun K18 hK18 => ?_
       refine wp_seq_k fun K19 hK19 => ?_
       refine wp_region_lit ?_
       refine sB 1 [(45, .int .i64 (newE (rc lq q 1) (rc lq q 2) (rc lq q 3) (rc lq q 4)))] hF (by kernel_rfl) fun a hF => ?_
       refine wl (eP 46 (v0 := .bool (!decide (newE (rc lq q 1) (rc lq q 2) (rc lq q 3) (rc lq q 4) = 0))) (v := .bool true) hF (by kernel_rfl) (fun _ => by kernel_rfl) (nF hz5) fun a hF => ?_)
       refine wpList_nil ?_
       refine hK19 _ _ ?_
       refine cT hF (by kernel_rfl) (by kernel_rfl) ?_
       refine wp_seq_k fun K20 hK20 => ?_
       refine wp_region_lit ?_
       refine sB 1 [(47, .agg #[.slice none 0 0, .slice none 0 0, .int .i64 0, .slice none 0 0, .slice none 0 0])] hF (by kernel_rfl) fun a hF => ?_
       refine wl (sStore (i := 3) (off := 0) (cs' := #[.slice none 0 0, .slice none 0 0, .int .i64 0, .slice none 0 0, .slice none 0 0]) hF hM (by kernel_rfl) rfl rfl (by kernel_rfl) (by kernel_rfl) rfl (by kernel_rfl) fun w hM => ?_)
       refine sB 1 [(5, .bool false)] hF (by kernel_rfl) fun a hF => ?_
       refine wpList_nil ?_
       refine hK20 _ _ ?_
       refine wp_ret ?_
       refine hR0 _ _ ?_
       refine ret_of hF hM (.cell (i := 3) rfl rfl (v := .agg #[.slice none 0 0, .slice none 0 0, .int .i64 0, .slice none 0 0, .slice none 0 0]) (by kernel_rfl) (.tmp rfl (.nil))) ?_
       exact ⟨rfl, hM.bel⟩
    ·skip
     replace hF := hF.c hF (i := 28) (v := .bool false) rfl (bF hz4)
     refine cF hF (by kernel_rfl) (by kernel_rfl) ?_
     refine wp_exit ?_
     refine hK9 _ _ ?_
     refine wp_seq_k fun K21 hK21 => ?_
     refine wp_seq_k fun K22 hK22 => ?_
     obtain rfl : q = lq.length := by omega
     have hfr := fr_liF (now := -1000) (ls := nwL la) (lm := nwM lq) h
     refine wp_region_lit ?_
     refine wl (eL 54 4 0 (v := .agg #[.slice A la.length ca, .slice A2 lq.length cq_, .int .i64 (-1000), .slice Gk la.length gck, .slice Gq lq.length gcq]) hF hM (by kernel_rfl) rfl rfl (by kernel_rfl) (by kernel_rfl) fun a w hF hM => ?_)
     refine wl (eM 55 (v := .bool false) hF hM (by kernel_rfl) (Yld.to (yld_call (f := 11) (args := #[.agg #[.slice A la.length ca, .slice A2 lq.length cq_, .int .i64 (-1000), .slice Gk la.length gck, .slice Gq lq.length gcq]]) hF (by kernel_rfl) (fun _ => by kernel_rfl) (fun w hM => rRight33_x A la ca A2 lq cq_ (-1000) Gk (nwL la) gck Gq (nwM lq) gcq w (hM.ok 1 _ rfl) hW (hM.ok 2 _ rfl) hW2 (ro_of_own (hM.ok 5 _ rfl)) (ro_of_own (hM.ok 7 _ rfl)) nwM_wr rfl rfl nwL_len nwM_len)) (congrArg Value.bool hfr)) fun a w hF hM => ?_)
     refine sB 1 [(56, .bool true)] hF (by kernel_rfl) fun a hF => ?_
     refine wpList_nil ?_
     refine hK22 _ _ ?_
     refine cT hF (by kernel_rfl) (by kernel_rfl) ?_
     refine wp_seq_k fun K23 hK23 => ?_
     refine wp_region_lit ?_
     refine sB 1 [(57, .agg #[.slice none 0 0, .slice none 0 0, .int .i64 0, .slice none 0 0, .slice none 0 0])] hF (by kernel_rfl) fun a hF => ?_
     refine wl (sStore (i := 3) (off := 0) (cs' := #[.slice none 0 0, .slice none 0 0, .int .i64 0, .slice none 0 0, .slice none 0 0]) hF hM (by kernel_rfl) rfl rfl (by kernel_rfl) (by kernel_rfl) rfl (by kernel_rfl) fun w hM => ?_)
     refine sB 1 [(5, .bool false)] hF (by kernel_rfl) fun a hF => ?_
     refine wpList_nil ?_
     refine hK23 _ _ ?_
     refine wp_ret ?_
     refine hR0 _ _ ?_
     refine ret_of hF hM (.cell (i := 3) rfl rfl (v := .agg #[.slice none 0 0, .slice none 0 0, .int .i64 0, .slice none 0 0, .slice none 0 0]) (by kernel_rfl) (.tmp rfl (.nil))) ?_
     exact ⟨rfl, hM.bel⟩

set_option maxRecDepth 100000 in
set_option maxHeartbeats 4000000 in
theorem rNew33_ok (A : Option Addr) (la : List (List Int)) (ca : Nat) (A2 : Option Addr) (lq : List (List Int)) (cq_ : Nat) (w0 : World) (hA : Ro w0 A (flatR la)) (hW : WR 7 la) (hA2 : Ro w0 A2 (flatR lq)) (hW2 : WR 5 lq) (hl : la.length ≤ 100 ∧ lq.length ≤ 100) (h : liB la lq = true) {ls : List Int} {lm : List (List Int)} {n3 n4 : Nat} (e1 : nwL la = ls) (e2 : nwM lq = lm) (e3 : la.length = n3) (e4 : lq.length = n4) :
    Calls Try.prog 14 #[.slice A la.length ca, .slice A2 lq.length cq_] w0 (RetRo2 w0 (fun x y => .tuple #[.agg #[.slice A la.length ca, .slice A2 lq.length cq_, .int .i64 (-1000), x, y], .bool true]) none none n3 n4 (ls.map (Value.int .i64)) (flatR lm)) := by
 subst e1 e2
 refine enterK 59 Try.func14 rfl rfl rfl ?_
 intro a hF Q0 hR0 hN0
 have hM := Mem.start w0
 replace hM := hM.addOld 1 hA (Nat.le_refl _)
 replace hM := hM.addOld 2 hA2 (Nat.le_refl _)
 refine wp_seq_k fun K1 hK1 => ?_
 refine wp_region_lit ?_
 refine wl (eN 4 3 (t := 27) (fun b => .pointer (some ⟨b, 0, none⟩)) #[.slice none 0 0, .slice none 0 0, .int .i64 0, .slice none 0 0, .slice none 0 0] hF hM (by kernel_rfl) (fun _ => by kernel_rfl) fun bb1 a w hF hM => ?_)
 refine sB 1 [(5, .bool false)] hF (by kernel_rfl) fun a hF => ?_
 refine wpList_nil ?_
 refine hK1 _ _ ?_
 refine wp_seq_k fun K2 hK2 => ?_
 refine wp_region_lit ?_
 refine sB 3 [(11, .slice A la.length ca), (12, .slice A2 lq.length cq_), (13, .agg #[.slice A la.length ca, .slice A2 lq.length cq_, .int .i64 (-1000), .slice none 0 0, .slice none 0 0])] hF (by kernel_rfl) fun a hF => ?_
 refine wl (eN 6 4 (t := 27) (fun b => .pointer (some ⟨b, 0, none⟩)) #[.slice none 0 0, .slice none 0 0, .int .i64 0, .slice none 0 0, .slice none 0 0] hF hM (by kernel_rfl) (fun _ => by kernel_rfl) fun bb2 a w hF hM => ?_)
 refine wl (sStore (i := 4) (off := 0) (cs' := #[.slice A la.length ca, .slice A2 lq.length cq_, .int .i64 (-1000), .slice none 0 0, .slice none 0 0]) hF hM (by kernel_rfl) rfl rfl (by kernel_rfl) (by kernel_rfl) rfl (by kernel_rfl) fun w hM => ?_)
 refine wpList_nil ?_
 refine hK2 _ _ ?_
 refine wp_seq_k fun K3 hK3 => ?_
 refine wp_seq_k fun K4 hK4 => ?_
 refine wp_region_lit ?_
 refine sB 1 [(7, .int .i64 0)] hF (by kernel_rfl) fun a hF => ?_
 refine wpList_nil ?_
 refine hK4 _ _ ?_
 refine wp_block ?_
 replace hM := hM.addNil 5 3 1
 refine wp_loop_k (G := Nat × Option Addr × Nat) (fun gg a w => Fr 59 [(7, some (.int .i64 (gg.1 : Int))), (0, some (.slice A la.length ca)), (1, some (.slice A2 lq.length cq_)), (4, some (.pointer (some ⟨bb1, 0, none⟩))), (5, some (.bool false)), (6, some (.pointer (some ⟨bb2, 0, none⟩)))] a ∧ Mem w0.heap.size w0 [(1, some (.ro A (flatR la))), (2, some (.ro A2 (flatR lq))), (3, some (.row bb1 27 #[.slice none 0 0, .slice none 0 0, .int .i64 0, .slice none 0 0, .slice none 0 0])), (4, some (.row bb2 27 #[.slice A la.length ca, .slice A2 lq.length cq_, .int .i64 (-1000), .slice gg.2.1 gg.1 gg.2.2, .slice none 0 0])), (5, some (.own (.slice gg.2.1 gg.1 gg.2.2) 3 1 gg.1 ((fillT (fun _ => (-1 : Int)) 0 gg.1 gg.1).map (Value.int .i64))))] w ∧ ((gg.1 : Int) ≤ (la.length : Int))) (fun gg => la.length - gg.1) (0, none, 0) ?_ ?_
 ·refine ⟨(((((((Fr.nil hF).c hF (i := 6) rfl rfl).c hF (i := 5) rfl rfl).c hF (i := 4) rfl rfl).c hF (i := 1) rfl rfl).c hF (i := 0) rfl rfl).c hF (i := 7) rfl (vi (show (0 : Int) = (0 : Int) from by omega))), (hM.sub (((((Sub.nil.c (k := 5) rfl rfl).c (k := 4) rfl rfl).c (k := 3) rfl rfl).c (k := 2) rfl rfl).c (k := 1) rfl rfl)), (show (0 : Int) ≤ (la.length : Int) from by omega)⟩
 ·intro gg a w hI
  intro K5 hK5
  obtain ⟨k, Gk, gck⟩ := gg
  try dsimp only at hI hK5
  obtain ⟨hF, hM, hz1⟩ := hI
  refine wp_seq_k fun K6 hK6 => ?_
  refine wp_seq_k fun K7 hK7 => ?_
  refine wp_region_lit ?_
  refine sB 4 [(14, .int .i64 (k : Int)), (15, .slice A la.length ca), (16, .int .i64 (la.length : Int)), (17, .bool (decide ((k : Int) < (la.length : Int))))] hF (by kernel_rfl) fun a hF => ?_
  refine wpList_nil ?_
  refine hK7 _ _ ?_
  by_cases hz2 : (k : Int) < (la.length : Int)
  ·skip
   replace hF := hF.c hF (i := 17) (v := .bool true) rfl (bT hz2)
   refine cT hF (by kernel_rfl) (by kernel_rfl) ?_
   refine wp_skip ?_
   refine hK6 _ _ ?_
   refine wp_seq_k fun K8 hK8 => ?_
   refine wp_block ?_
   refine wp_region_lit ?_
   refine sB 1 [(20, .pointer (some ⟨bb2, 3, none⟩))] hF (by kernel_rfl) fun a hF => ?_
   refine wl (eL 21 4 3 (v := .slice Gk k gck) hF hM (by kernel_rfl) rfl rfl (by kernel_rfl) (by kernel_rfl) fun a w hF hM => ?_)
   refine wl (eN 22 6 (t := 3) (fun b => .slice (some ⟨b, 0, none⟩) 1 1) #[.int .i64 (-1)] hF hM (by kernel_rfl) (fun _ => by kernel_rfl) fun bb3 a w hF hM => ?_)
   refine wl (sApp 23 5 (e := 3) (size := 1) (bytes := 8) (z := .int .i64 0) (m := 1) (c := 1) (l := k) (cap := gck) (A := Gk) (news := [.int .i64 (-1)]) (((fillT (fun _ => (-1 : Int)) 0 k k) ++ [-1]).map (Value.int .i64)) hF hM (by kernel_rfl) rfl (by kernel_rfl) (by kernel_rfl) (by kernel_rfl) rfl rfl rfl rfl (roR 6 rfl) (by simp [Value.oneCell']) (by omega) (by decide) (map_snoc' _ _ _) fun AA4 cc4 a w hF hM => ?_)
   refine sB 1 [(24, .pointer (some ⟨bb2, 3, none⟩))] hF (by kernel_rfl) fun a hF => ?_
   refine wl (sStore (i := 4) (off := 3) (cs' := #[.slice A la.length ca, .slice A2 lq.length cq_, .int .i64 (-1000), .slice AA4 (k + 1) cc4, .slice none 0 0]) hF hM (by kernel_rfl) rfl rfl (by kernel_rfl) (by kernel_rfl) rfl (by kernel_rfl) fun w hM => ?_)
   refine wpList_nil ?_
   refine hK8 _ _ ?_
   refine wp_region_lit ?_
   refine sB 1 [(18, .int .i64 (k : Int))] hF (by kernel_rfl) fun a hF => ?_
   refine wl (eP 19 (v0 := .int .i64 (IntKind.i64.wrap ((k : Int) + 1))) (v := .int .i64 ((k : Int) + 1)) hF (by kernel_rfl) (fun _ => by kernel_rfl) (wi (by omega)) fun a hF => ?_)
   refine sB 1 [(7, .int .i64 ((k : Int) + 1))] hF (by kernel_rfl) fun a hF => ?_
   refine wpList_nil ?_
   refine hK5 _ _ ⟨(k + 1, AA4, cc4), ⟨(((((((Fr.nil hF).c hF (i := 6) rfl rfl).c hF (i := 5) rfl rfl).c hF (i := 4) rfl rfl).c hF (i := 1) rfl rfl).c hF (i := 0) rfl rfl).c hF (i := 7) rfl (vi (show ((k : Int) + 1 : Int) = ((k + 1) : Int) from by omega))), (hM.sub (((((Sub.nil.c (k := 5) rfl (congrArg (fun x => Ent.own _ _ _ _ (List.map (Value.int .i64) x)) (fillT_snoc _ _ _ rfl))).c (k := 4) rfl rfl).c (k := 3) rfl rfl).c (k := 2) rfl rfl).c (k := 1) rfl rfl)), (show ((k + 1) : Int) ≤ (la.length : Int) from by omega)⟩, (show la.length - (k + 1) < la.length - k from by omega)⟩
  ·skip
   replace hF := hF.c hF (i := 17) (v := .bool false) rfl (bF hz2)
   refine cF hF (by kernel_rfl) (by kernel_rfl) ?_
   refine wp_exit ?_
   refine hK3 _ _ ?_
   refine wp_seq_k fun K9 hK9 => ?_
   refine wp_seq_k fun K10 hK10 => ?_
   obtain rfl : k = la.length := by omega
   refine wp_region_lit ?_
   refine sB 1 [(8, .int .i64 0)] hF (by kernel_rfl) fun a hF => ?_
   refine wpList_nil ?_
   refine hK10 _ _ ?_
   refine wp_block ?_
   replace hM := hM.addNil 7 80 3
   refine wp_loop_k (G := Nat × Option Addr × Nat) (fun gg a w => Fr 59 [(8, some (.int .i64 (gg.1 : Int))), (1, some (.slice A2 lq.length cq_)), (4, some (.pointer (some ⟨bb1, 0, none⟩))), (6, some (.pointer (some ⟨bb2, 0, none⟩)))] a ∧ Mem w0.heap.size w0 [(1, some (.ro A (flatR la))), (2, some (.ro A2 (flatR lq))), (3, some (.row bb1 27 #[.slice none 0 0, .slice none 0 0, .int .i64 0, .slice none 0 0, .slice none 0 0])), (4, some (.row bb2 27 #[.slice A la.length ca, .slice A2 lq.length cq_, .int .i64 (-1000), .slice Gk la.length gck, .slice gg.2.1 gg.1 gg.2.2])), (5, some (.own (.slice Gk la.length gck) 3 1 la.length ((fillT (fun _ => (-1 : Int)) 0 la.length la.length).map (Value.int .i64)))), (7, some (.own (.slice gg.2.1 gg.1 gg.2.2) 80 3 gg.1 (flatR (fillT (mOf lq) [0, 0, 0] gg.1 gg.1))))] w ∧ ((gg.1 : Int) ≤ (lq.length : Int))) (fun gg => lq.length - gg.1) (0, none, 0) ?_ ?_
   ·refine ⟨(((((Fr.nil hF).c hF (i := 6) rfl rfl).c hF (i := 4) rfl rfl).c hF (i := 1) rfl rfl).c hF (i := 8) rfl (vi (show (0 : Int) = (0 : Int) from by omega))), (hM.sub ((((((Sub.nil.c (k := 7) rfl rfl).c (k := 5) rfl rfl).c (k := 4) rfl rfl).c (k := 3) rfl rfl).c (k := 2) rfl rfl).c (k := 1) rfl rfl)), (show (0 : Int) ≤ (lq.length : Int) from by omega)⟩
   ·intro gg a w hI
    intro K11 hK11
    obtain ⟨q, Gq, gcq⟩ := gg
    try dsimp only at hI hK11
    obtain ⟨hF, hM, hz3⟩ := hI
    refine wp_seq_k fun K12 hK12 => ?_
    refine wp_seq_k fun K13 hK13 => ?_
    refine wp_region_lit ?_
    refine sB 4 [(25, .int .i64 (q : Int)), (26, .slice A2 lq.length cq_), (27, .int .i64 (lq.length : Int)), (28, .bool (decide ((q : Int) < (lq.length : Int))))] hF (by kernel_rfl) fun a hF => ?_
    refine wpList_nil ?_
    refine hK13 _ _ ?_
    by_cases hz4 : (q : Int) < (lq.length : Int)
    ·skip
     replace hF := hF.c hF (i := 28) (v := .bool true) rfl (bT hz4)
     refine cT hF (by kernel_rfl) (by kernel_rfl) ?_
     refine wp_skip ?_
     refine hK12 _ _ ?_
     refine wp_seq_k fun K14 hK14 => ?_
     refine wp_block ?_
     refine wp_seq_k fun K15 hK15 => ?_
     by_cases hz5 : newE (rc lq q 1) (rc lq q 2) (rc lq q 3) (rc lq q 4) = 0
     ·skip
      have hz6 := newE_ok hz5
      refine rF (by kernel_rfl) (by kernel_rfl) (fun S a w => ∃ bb5 : Nat, Fr 59 [(1, some (.slice A2 lq.length cq_)), (4, some (.pointer (some ⟨bb1, 0, none⟩))), (6, some (.pointer (some ⟨bb2, 0, none⟩))), (8, some (.int .i64 (q : Int))), (9, (cond (S.getD 14 false) (some (.pointer (some ⟨bb5, 0, none⟩))) none)), (10, (cond (S.getD 16 false) (some (.int .i64 0)) none)), (31, (cond (S.getD 11 false) (some (.tuple #[.agg #[.int .i64 0, .int .i64 (rc lq q 1 * 1048576), .int .i64 (rc lq q 3 * 1048576)], .int .i64 0])) none)), (32, (cond (S.getD 0 false) (some (.slice A2 lq.length cq_)) none)), (33, (cond (S.getD 1 false) (some (.int .i64 (q : Int))) none)), (34, (cond (S.getD 2 false) (some (.pointer (some (ea A2 (q * 5))))) none)), (35, (cond (S.getD 3 false) (some (.pointer (some (ea A2 (q * 5 + 1))))) none)), (36, (cond (S.getD 4 false) (some (.agg #[.int .i64 (rc lq q 1), .int .i64 (rc lq q 2)])) none)), (37, (cond (S.getD 5 false) (some (.slice A2 lq.length cq_)) none)), (38, (cond (S.getD 6 false) (some (.int .i64 (q : Int))) none)), (39, (cond (S.getD 7 false) (some (.pointer (some (ea A2 (q * 5))))) none)), (40, (cond (S.getD 8 false) (some (.pointer (some (ea A2 (q * 5 + 3))))) none)), (41, (cond (S.getD 9 false) (some (.agg #[.int .i64 (rc lq q 3), .int .i64 (rc lq q 4)])) none)), (42, (cond (S.getD 10 false) (some (.tuple #[.agg #[.int .i64 0, .int .i64 (rc lq q 1 * 1048576), .int .i64 (rc lq q 3 * 1048576)], .int .i64 0])) none)), (43, (cond (S.getD 12 false) (some (.agg #[.int .i64 0, .int .i64 (rc lq q 1 * 1048576), .int .i64 (rc lq q 3 * 1048576)])) none)), (44, (cond (S.getD 13 false) (some (.int .i64 0)) none))] a ∧ Mem w0.heap.size w0 [(1, some (.ro A (flatR la))), (2, some (.ro A2 (flatR lq))), (3, some (.row bb1 27 #[.slice none 0 0, .slice none 0 0, .int .i64 0, .slice none 0 0, .slice none 0 0])), (4, some (.row bb2 27 #[.slice A la.length ca, .slice A2 lq.length cq_, .int .i64 (-1000), .slice Gk la.length gck, .slice Gq q gcq])), (5, some (.own (.slice Gk la.length gck) 3 1 la.length ((fillT (fun _ => (-1 : Int)) 0 la.length la.length).map (Value.int .i64)))), (7, some (.own (.slice Gq q gcq) 80 3 q (flatR (fillT (mOf lq) [0, 0, 0] q q)))), (8, (cond (S.getD 15 false) (some (.row bb5 80 #[.int .i64 0, .int .i64 (rc lq q 1 * 1048576), .int .i64 (rc lq q 3 * 1048576)])) (cond (S.getD 14 false) (some (.row bb5 80 #[.int .i64 0, .int .i64 0, .int .i64 0])) none)))] w) ?_ ?_ ?_
      ·exact ⟨0, (((((((((((((((((((((Fr.nil hF).co hF (i := 44) (by kernel_rfl)).co hF (i := 43) (by kernel_rfl)).co hF (i := 42) (by kernel_rfl)).co hF (i := 41) (by kernel_rfl)).co hF (i := 40) (by kernel_rfl)).co hF (i := 39) (by kernel_rfl)).co hF (i := 38) (by kernel_rfl)).co hF (i := 37) (by kernel_rfl)).co hF (i := 36) (by kernel_rfl)).co hF (i := 35) (by kernel_rfl)).co hF (i := 34) (by kernel_rfl)).co hF (i := 33) (by kernel_rfl)).co hF (i := 32) (by kernel_rfl)).co hF (i := 31) (by kernel_rfl)).co hF (i := 10) (by kernel_rfl)).co hF (i := 9) (by kernel_rfl)).co hF (i := 8) (by kernel_rfl)).co hF (i := 6) (by kernel_rfl)).co hF (i := 4) (by kernel_rfl)).co hF (i := 1) (by kernel_rfl)), hM.drew.sub (((((((Sub.nil.co (k := 8) (by kernel_rfl)).co (k := 7) (by kernel_rfl)).co (k := 5) (by kernel_rfl)).co (k := 4) (by kernel_rfl)).co (k := 3) (by kernel_rfl)).co (k := 2) (by kernel_rfl)).co (k := 1) (by kernel_rfl))⟩
      ·refine stC ?_ (stC ?_ (stC ?_ (stC ?_ (stC ?_ (stC ?_ (stC ?_ (stC ?_ (stC ?_ (stC ?_ (stC ?_ (stC ?_ (stC ?_ (stC ?_ (stC ?_ (stC ?_ (stC ?_ (trivial)))))))))))))))))
       ·intro s0 s1 s2 s3 s4 s5 s6 s7 s8 s9 s10 s11 s12 s13 s14 s15 s16 hc hi hp a w hS
        obtain rfl : s0 = false := hi
        obtain ⟨bb5, hF, hM⟩ := hS
        refine eP 32 (v0 := .slice A2 lq.length cq_) (v := .slice A2 lq.length cq_) hF (by kernel_rfl) (fun _ => by kernel_rfl) rfl fun a hF => ?_
        exact ⟨bb5, ((hF.repl 7 (by kernel_rfl)).cast (by kernel_rfl)), (hM.cast (by kernel_rfl))⟩
       ·intro s0 s1 s2 s3 s4 s5 s6 s7 s8 s9 s10 s11 s12 s13 s14 s15 s16 hc hi hp a w hS
        obtain rfl : s1 = false := hi
        obtain ⟨bb5, hF, hM⟩ := hS
        refine eP 33 (v0 := .int .i64 (q : Int)) (v := .int .i64 (q : Int)) hF (by kernel_rfl) (fun _ => by kernel_rfl) rfl fun a hF => ?_
        exact ⟨bb5, ((hF.repl 8 (by kernel_rfl)).cast (by kernel_rfl)), (hM.cast (by kernel_rfl))⟩
       ·intro s0 s1 s2 s3 s4 s5 s6 s7 s8 s9 s10 s11 s12 s13 s14 s15 s16 hc hi hp a w hS
        obtain rfl : s2 = false := hi
        obtain rfl : s1 = true := hp 1 (by kernel_rfl)
        obtain rfl : s0 = true := hp 0 (by kernel_rfl)
        obtain ⟨bb5, hF, hM⟩ := hS
        refine eM 34 (v := .pointer (some (ea A2 (q * 5)))) hF hM (by kernel_rfl) (yld_ix (kd := .i64) (e := 69) (len := lq.length) (cap := cq_) (i := (q : Int)) (size := 5) (A := A2) hF rfl (by kernel_rfl) (by kernel_rfl) (by kernel_rfl) (by kernel_rfl) (by kernel_rfl) (roK 2 rfl) (by omega) (by omega) (by rw [flatR_length hW2]; (try simp only [List.length_map, List.length_append, List.length_replicate, List.length_set, List.length_cons, List.length_nil, flat2_length, List.length_take]); omega)) fun a w hF hM => ?_
        exact ⟨bb5, ((hF.repl 9 (by kernel_rfl)).cast (by kernel_rfl)), (hM.cast (by kernel_rfl))⟩
       ·intro s0 s1 s2 s3 s4 s5 s6 s7 s8 s9 s10 s11 s12 s13 s14 s15 s16 hc hi hp a w hS
        obtain rfl : s3 = false := hi
        obtain rfl : s2 = true := hp 2 (by kernel_rfl)
        obtain ⟨bb5, hF, hM⟩ := hS
        refine eP 35 (v0 := .pointer (some (ea A2 (q * 5 + 1)))) (v := .pointer (some (ea A2 (q * 5 + 1)))) hF (by kernel_rfl) (fun _ => by kernel_rfl) rfl fun a hF => ?_
        exact ⟨bb5, ((hF.repl 10 (by kernel_rfl)).cast (by kernel_rfl)), (hM.cast (by kernel_rfl))⟩
       ·intro s0 s1 s2 s3 s4 s5 s6 s7 s8 s9 s10 s11 s12 s13 s14 s15 s16 hc hi hp a w hS
        obtain rfl : s4 = false := hi
        obtain rfl : s3 = true := hp 3 (by kernel_rfl)
        obtain ⟨bb5, hF, hM⟩ := hS
        refine eM 36 (v := .agg #[.int .i64 (rc lq q 1), .int .i64 (rc lq q 2)]) hF hM (by kernel_rfl) (yld_roM (A := A2) (j := q * 5 + 1) (us := [.int .i64 (rc lq q 1), .int .i64 (rc lq q 2)]) hF rfl (by kernel_rfl) (by kernel_rfl) (roK 2 rfl) (by kernel_rfl) rfl (rc_sub (k := q) (f := 1) (m := 2) hW2 (by omega) (by decide) rfl)) fun a w hF hM => ?_
        exact ⟨bb5, ((hF.repl 11 (by kernel_rfl)).cast (by kernel_rfl)), (hM.cast (by kernel_rfl))⟩
       ·intro s0 s1 s2 s3 s4 s5 s6 s7 s8 s9 s10 s11 s12 s13 s14 s15 s16 hc hi hp a w hS
        obtain rfl : s5 = false := hi
        obtain ⟨bb5, hF, hM⟩ := hS
        refine eP 37 (v0 := .slice A2 lq.length cq_) (v := .slice A2 lq.length cq_) hF (by kernel_rfl) (fun _ => by kernel_rfl) rfl fun a hF => ?_
        exact ⟨bb5, ((hF.repl 12 (by kernel_rfl)).cast (by kernel_rfl)), (hM.cast (by kernel_rfl))⟩
       ·intro s0 s1 s2 s3 s4 s5 s6 s7 s8 s9 s10 s11 s12 s13 s14 s15 s16 hc hi hp a w hS
        obtain rfl : s6 = false := hi
        obtain ⟨bb5, hF, hM⟩ := hS
        refine eP 38 (v0 := .int .i64 (q : Int)) (v := .int .i64 (q : Int)) hF (by kernel_rfl) (fun _ => by kernel_rfl) rfl fun a hF => ?_
        exact ⟨bb5, ((hF.repl 13 (by kernel_rfl)).cast (by kernel_rfl)), (hM.cast (by kernel_rfl))⟩
       ·intro s0 s1 s2 s3 s4 s5 s6 s7 s8 s9 s10 s11 s12 s13 s14 s15 s16 hc hi hp a w hS
        obtain rfl : s7 = false := hi
        obtain rfl : s6 = true := hp 6 (by kernel_rfl)
        obtain rfl : s5 = true := hp 5 (by kernel_rfl)
        obtain ⟨bb5, hF, hM⟩ := hS
        refine eM 39 (v := .pointer (some (ea A2 (q * 5)))) hF hM (by kernel_rfl) (yld_ix (kd := .i64) (e := 69) (len := lq.length) (cap := cq_) (i := (q : Int)) (size := 5) (A := A2) hF rfl (by kernel_rfl) (by kernel_rfl) (by kernel_rfl) (by kernel_rfl) (by kernel_rfl) (roK 2 rfl) (by omega) (by omega) (by rw [flatR_length hW2]; (try simp only [List.length_map, List.length_append, List.length_replicate, List.length_set, List.length_cons, List.length_nil, flat2_length, List.length_take]); omega)) fun a w hF hM => ?_
        exact ⟨bb5, ((hF.repl 14 (by kernel_rfl)).cast (by kernel_rfl)), (hM.cast (by kernel_rfl))⟩
       ·intro s0 s1 s2 s3 s4 s5 s6 s7 s8 s9 s10 s11 s12 s13 s14 s15 s16 hc hi hp a w hS
        obtain rfl : s8 = false := hi
        obtain rfl : s7 = true := hp 7 (by kernel_rfl)
        obtain ⟨bb5, hF, hM⟩ := hS
        refine eP 40 (v0 := .pointer (some (ea A2 (q * 5 + 3)))) (v := .pointer (some (ea A2 (q * 5 + 3)))) hF (by kernel_rfl) (fun _ => by kernel_rfl) rfl fun a hF => ?_
        exact ⟨bb5, ((hF.repl 15 (by kernel_rfl)).cast (by kernel_rfl)), (hM.cast (by kernel_rfl))⟩
       ·intro s0 s1 s2 s3 s4 s5 s6 s7 s8 s9 s10 s11 s12 s13 s14 s15 s16 hc hi hp a w hS
        obtain rfl : s9 = false := hi
        obtain rfl : s8 = true := hp 8 (by kernel_rfl)
        obtain ⟨bb5, hF, hM⟩ := hS
        refine eM 41 (v := .agg #[.int .i64 (rc lq q 3), .int .i64 (rc lq q 4)]) hF hM (by kernel_rfl) (yld_roM (A := A2) (j := q * 5 + 3) (us := [.int .i64 (rc lq q 3), .int .i64 (rc lq q 4)]) hF rfl (by kernel_rfl) (by kernel_rfl) (roK 2 rfl) (by kernel_rfl) rfl (rc_sub (k := q) (f := 3) (m := 2) hW2 (by omega) (by decide) rfl)) fun a w hF hM => ?_
        exact ⟨bb5, ((hF.repl 16 (by kernel_rfl)).cast (by kernel_rfl)), (hM.cast (by kernel_rfl))⟩
       ·intro s0 s1 s2 s3 s4 s5 s6 s7 s8 s9 s10 s11 s12 s13 s14 s15 s16 hc hi hp a w hS
        obtain rfl : s10 = false := hi
        obtain rfl : s9 = true := hp 9 (by kernel_rfl)
        obtain rfl : s4 = true := hp 4 (by kernel_rfl)
        obtain ⟨bb5, hF, hM⟩ := hS
        refine eM 42 (v := .tuple #[.agg #[.int .i64 0, .int .i64 (rc lq q 1 * 1048576), .int .i64 (rc lq q 3 * 1048576)], .int .i64 0]) hF hM (by kernel_rfl) (yld_call (f := 34) (args := #[.agg #[.int .i64 (rc lq q 1), .int .i64 (rc lq q 2)], .agg #[.int .i64 (rc lq q 3), .int .i64 (rc lq q 4)]]) hF (by kernel_rfl) (fun _ => by kernel_rfl) (fun w hM => refNew_ok (rc lq q 1) (rc lq q 2) (rc lq q 3) (rc lq q 4) w hz5)) fun a w hF hM => ?_
        exact ⟨bb5, ((hF.repl 17 (by kernel_rfl)).cast (by kernel_rfl)), (hM.cast (by kernel_rfl))⟩
       ·intro s0 s1 s2 s3 s4 s5 s6 s7 s8 s9 s10 s11 s12 s13 s14 s15 s16 hc hi hp a w hS
        obtain rfl : s11 = false := hi
        obtain rfl : s10 = true := hp 10 (by kernel_rfl)
        obtain ⟨bb5, hF, hM⟩ := hS
        refine eP 31 (v0 := .tuple #[.agg #[.int .i64 0, .int .i64 (rc lq q 1 * 1048576), .int .i64 (rc lq q 3 * 1048576)], .int .i64 0]) (v := .tuple #[.agg #[.int .i64 0, .int .i64 (rc lq q 1 * 1048576), .int .i64 (rc lq q 3 * 1048576)], .int .i64 0]) hF (by kernel_rfl) (fun _ => by kernel_rfl) rfl fun a hF => ?_
        exact ⟨bb5, ((hF.repl 6 (by kernel_rfl)).cast (by kernel_rfl)), (hM.cast (by kernel_rfl))⟩
       ·intro s0 s1 s2 s3 s4 s5 s6 s7 s8 s9 s10 s11 s12 s13 s14 s15 s16 hc hi hp a w hS
        obtain rfl : s12 = false := hi
        obtain rfl : s11 = true := hp 11 (by kernel_rfl)
        obtain ⟨bb5, hF, hM⟩ := hS
        refine eP 43 (v0 := .agg #[.int .i64 0, .int .i64 (rc lq q 1 * 1048576), .int .i64 (rc lq q 3 * 1048576)]) (v := .agg #[.int .i64 0, .int .i64 (rc lq q 1 * 1048576), .int .i64 (rc lq q 3 * 1048576)]) hF (by kernel_rfl) (fun _ => by kernel_rfl) rfl fun a hF => ?_
        exact ⟨bb5, ((hF.repl 18 (by kernel_rfl)).cast (by kernel_rfl)), (hM.cast (by kernel_rfl))⟩
       ·intro s0 s1 s2 s3 s4 s5 s6 s7 s8 s9 s10 s11 s12 s13 s14 s15 s16 hc hi hp a w hS
        obtain rfl : s13 = false := hi
        obtain rfl : s11 = true := hp 11 (by kernel_rfl)
        obtain ⟨bb5, hF, hM⟩ := hS
        refine eP 44 (v0 := .int .i64 0) (v := .int .i64 0) hF (by kernel_rfl) (fun _ => by kernel_rfl) rfl fun a hF => ?_
        exact ⟨bb5, ((hF.repl 19 (by kernel_rfl)).cast (by kernel_rfl)), (hM.cast (by kernel_rfl))⟩
       ·intro s0 s1 s2 s3 s4 s5 s6 s7 s8 s9 s10 s11 s12 s13 s14 s15 s16 hc hi hp a w hS
        obtain rfl : s14 = false := hi
        obtain rfl : s15 = false := hc.f 15 14 (by kernel_rfl) rfl
        obtain ⟨bb5, hF, hM⟩ := hS
        refine eN 9 8 (t := 80) (fun b => .pointer (some ⟨b, 0, none⟩)) #[.int .i64 0, .int .i64 0, .int .i64 0] hF hM (by kernel_rfl) (fun _ => by kernel_rfl) fun bb5 a w hF hM => ?_
        exact ⟨bb5, ((hF.repl 4 (by kernel_rfl)).cast (by kernel_rfl)), ((hM.repl 6 (by kernel_rfl)).cast (by kernel_rfl))⟩
       ·intro s0 s1 s2 s3 s4 s5 s6 s7 s8 s9 s10 s11 s12 s13 s14 s15 s16 hc hi hp a w hS
        obtain rfl : s15 = false := hi
        obtain rfl : s14 = true := hp 14 (by kernel_rfl)
        obtain rfl : s12 = true := hp 12 (by kernel_rfl)
        obtain ⟨bb5, hF, hM⟩ := hS
        refine sStore (i := 8) (off := 0) (cs' := #[.int .i64 0, .int .i64 (rc lq q 1 * 1048576), .int .i64 (rc lq q 3 * 1048576)]) hF hM (by kernel_rfl) rfl rfl (by kernel_rfl) (by kernel_rfl) rfl (by kernel_rfl) fun w hM => ?_
        exact ⟨bb5, (hF.cast (by kernel_rfl)), ((hM.repl 6 (by kernel_rfl)).cast (by kernel_rfl))⟩
       ·intro s0 s1 s2 s3 s4 s5 s6 s7 s8 s9 s10 s11 s12 s13 s14 s15 s16 hc hi hp a w hS
        obtain rfl : s16 = false := hi
        obtain rfl : s13 = true := hp 13 (by kernel_rfl)
        obtain ⟨bb5, hF, hM⟩ := hS
        refine eP 10 (v0 := .int .i64 0) (v := .int .i64 0) hF (by kernel_rfl) (fun _ => by kernel_rfl) rfl fun a hF => ?_
        exact ⟨bb5, ((hF.repl 5 (by kernel_rfl)).cast (by kernel_rfl)), (hM.cast (by kernel_rfl))⟩
      ·intro a w hS
       obtain ⟨bb5, hF, hM⟩ := hS
       replace hF : Fr 59 [(1, some (.slice A2 lq.length cq_)), (4, some (.pointer (some ⟨bb1, 0, none⟩))), (6, some (.pointer (some ⟨bb2, 0, none⟩))), (8, some (.int .i64 (q : Int))), (9, some (.pointer (some ⟨bb5, 0, none⟩))), (10, some (.int .i64 0)), (31, some (.tuple #[.agg #[.int .i64 0, .int .i64 (rc lq q 1 * 1048576), .int .i64 (rc lq q 3 * 1048576)], .int .i64 0])), (32, some (.slice A2 lq.length cq_)), (33, some (.int .i64 (q : Int))), (34, some (.pointer (some (ea A2 (q * 5))))), (35, some (.pointer (some (ea A2 (q * 5 + 1))))), (36, some (.agg #[.int .i64 (rc lq q 1), .int .i64 (rc lq q 2)])), (37, some (.slice A2 lq.length cq_)), (38, some (.int .i64 (q : Int))), (39, some (.pointer (some (ea A2 (q * 5))))), (40, some (.pointer (some (ea A2 (q * 5 + 3))))), (41, some (.agg #[.int .i64 (rc lq q 3), .int .i64 (rc lq q 4)])), (42, some (.tuple #[.agg #[.int .i64 0, .int .i64 (rc lq q 1 * 1048576), .int .i64 (rc lq q 3 * 1048576)], .int .i64 0])), (43, some (.agg #[.int .i64 0, .int .i64 (rc lq q 1 * 1048576), .int .i64 (rc lq q 3 * 1048576)])), (44, some (.int .i64 0))] a := hF.cast (by kernel_rfl)
       replace hM : Mem w0.heap.size w0 [(1, some (.ro A (flatR la))), (2, some (.ro A2 (flatR lq))), (3, some (.row bb1 27 #[.slice none 0 0, .slice none 0 0, .int .i64 0, .slice none 0 0, .slice none 0 0])), (4, some (.row bb2 27 #[.slice A la.length ca, .slice A2 lq.length cq_, .int .i64 (-1000), .slice Gk la.length gck, .slice Gq q gcq])), (5, some (.own (.slice Gk la.length gck) 3 1 la.length ((fillT (fun _ => (-1 : Int)) 0 la.length la.length).map (Value.int .i64)))), (7, some (.own (.slice Gq q gcq) 80 3 q (flatR (fillT (mOf lq) [0, 0, 0] q q)))), (8, some (.row bb5 80 #[.int .i64 0, .int .i64 (rc lq q 1 * 1048576), .int .i64 (rc lq q 3 * 1048576)]))] w := hM.cast (by kernel_rfl)
       refine hK15 _ _ ?_
       refine wp_seq_k fun K16 hK16 => ?_
       refine wp_seq_k fun K17 hK17 => ?_
       refine wp_region_lit ?_
       refine sB 1 [(45, .int .i64 0)] hF (by kernel_rfl) fun a hF => ?_
       refine wl (eP 46 (v0 := .bool (!decide (0 = 0))) (v := .bool false) hF (by kernel_rfl) (fun _ => by kernel_rfl) (nT (by omega)) fun a hF => ?_)
       refine wpList_nil ?_
       refine hK17 _ _ ?_
       refine cF hF (by kernel_rfl) (by kernel_rfl) ?_
       refine wp_skip ?_
       refine hK16 _ _ ?_
       refine wp_region_lit ?_
       refine sB 1 [(48, .pointer (some ⟨bb2, 4, none⟩))] hF (by kernel_rfl) fun a hF => ?_
       refine wl (eL 49 4 4 (v := .slice Gq q gcq) hF hM (by kernel_rfl) rfl rfl (by kernel_rfl) (by kernel_rfl) fun a w hF hM => ?_)
       refine wl (eL 50 8 0 (v := .agg #[.int .i64 0, .int .i64 (rc lq q 1 * 1048576), .int .i64 (rc lq q 3 * 1048576)]) hF hM (by kernel_rfl) rfl rfl (by kernel_rfl) (by kernel_rfl) fun a w hF hM => ?_)
       refine wl (eN 51 9 (t := 80) (fun b => .slice (some ⟨b, 0, none⟩) 1 1) #[.int .i64 0, .int .i64 (rc lq q 1 * 1048576), .int .i64 (rc lq q 3 * 1048576)] hF hM (by kernel_rfl) (fun _ => by kernel_rfl) fun bb6 a w hF hM => ?_)
       refine wl (sApp 52 7 (e := 80) (size := 3) (bytes := 24) (z := .agg #[.int .i64 0, .int .i64 0, .int .i64 0]) (m := 1) (c := 1) (l := q) (cap := gcq) (A := Gq) (news := [.int .i64 0, .int .i64 (rc lq q 1 * 1048576), .int .i64 (rc lq q 3 * 1048576)]) (flatR ((fillT (mOf lq) [0, 0, 0] q q) ++ [[0, rc lq q 1 * 1048576, rc lq q 3 * 1048576]])) hF hM (by kernel_rfl) rfl (by kernel_rfl) (by kernel_rfl) (by kernel_rfl) rfl rfl rfl rfl (roR 9 rfl) (by simp [Value.oneCell']) (by omega) (by decide) (flatR_append (fillT (mOf lq) [0, 0, 0] q q) [[0, rc lq q 1 * 1048576, rc lq q 3 * 1048576]]).symm fun AA7 cc7 a w hF hM => ?_)
       refine sB 1 [(53, .pointer (some ⟨bb2, 4, none⟩))] hF (by kernel_rfl) fun a hF => ?_
       refine wl (sStore (i := 4) (off := 4) (cs' := #[.slice A la.length ca, .slice A2 lq.length cq_, .int .i64 (-1000), .slice Gk la.length gck, .slice AA7 (q + 1) cc7]) hF hM (by kernel_rfl) rfl rfl (by kernel_rfl) (by kernel_rfl) rfl (by kernel_rfl) fun w hM => ?_)
       refine wpList_nil ?_
       refine hK14 _ _ ?_
       refine wp_region_lit ?_
       refine sB 1 [(29, .int .i64 (q : Int))] hF (by kernel_rfl) fun a hF => ?_
       refine wl (eP 30 (v0 := .int .i64 (IntKind.i64.wrap ((q : Int) + 1))) (v := .int .i64 ((q : Int) + 1)) hF (by kernel_rfl) (fun _ => by kernel_rfl) (wi (by omega)) fun a hF => ?_)
       refine sB 1 [(8, .int .i64 ((q : Int) + 1))] hF (by kernel_rfl) fun a hF => ?_
       refine wpList_nil ?_
       refine hK11 _ _ ⟨(q + 1, AA7, cc7), ⟨(((((Fr.nil hF).c hF (i := 6) rfl rfl).c hF (i := 4) rfl rfl).c hF (i := 1) rfl rfl).c hF (i := 8) rfl (vi (show ((q : Int) + 1 : Int) = ((q + 1) : Int) from by omega))), (hM.sub ((((((Sub.nil.c (k := 7) rfl (congrArg (fun x => Ent.own _ _ _ _ (flatR x)) (fillT_snoc (mOf lq) _ _ rfl))).c (k := 5) rfl rfl).c (k := 4) rfl rfl).c (k := 3) rfl rfl).c (k := 2) rfl rfl).c (k := 1) rfl rfl)), (show ((q + 1) : Int) ≤ (lq.length : Int) from by omega)⟩, (show lq.length - (q + 1) < lq.length - q from by omega)⟩
     ·skip
      refine rF (by kernel_rfl) (by kernel_rfl) (fun S a w => ∃ bb8 : Nat, Fr 59 [(1, some (.slice A2 lq.length cq_)), (4, some (.pointer (some ⟨bb1, 0, none⟩))), (6, some (.pointer (some ⟨bb2, 0, none⟩))), (8, some (.int .i64 (q : Int))), (9, (cond (S.getD 14 false) (some (.pointer (some ⟨bb8, 0, none⟩))) none)), (10, (cond (S.getD 16 false) (some (.int .i64 (newE (rc lq q 1) (rc lq q 2) (rc lq q 3) (rc lq q 4)))) none)), (31, (cond (S.getD 11 false) (some (.tuple #[.agg #[.int .i64 0, .int .i64 (newC (rc lq q 1) (rc lq q 2) (rc lq q 3) (rc lq q 4)), .int .i64 (newP (rc lq q 1) (rc lq q 2) (rc lq q 3) (rc lq q 4))], .int .i64 (newE (rc lq q 1) (rc lq q 2) (rc lq q 3) (rc lq q 4))])) none)), (32, (cond (S.getD 0 false) (some (.slice A2 lq.length cq_)) none)), (33, (cond (S.getD 1 false) (some (.int .i64 (q : Int))) none)), (34, (cond (S.getD 2 false) (some (.pointer (some (ea A2 (q * 5))))) none)), (35, (cond (S.getD 3 false) (some (.pointer (some (ea A2 (q * 5 + 1))))) none)), (36, (cond (S.getD 4 false) (some (.agg #[.int .i64 (rc lq q 1), .int .i64 (rc lq q 2)])) none)), (37, (cond (S.getD 5 false) (some (.slice A2 lq.length cq_)) none)), (38, (cond (S.getD 6 false) (some (.int .i64 (q : Int))) none)), (39, (cond (S.getD 7 false) (some (.pointer (some (ea A2 (q * 5))))) none)), (40, (cond (S.getD 8 false) (some (.pointer (some (ea A2 (q * 5 + 3))))) none)), (41, (cond (S.getD 9 false) (some (.agg #[.int .i64 (rc lq q 3), .int .i64 (rc lq q 4)])) none)), (42, (cond (S.getD 10 false) (some (.tuple #[.agg #[.int .i64 0, .int .i64 (newC (rc lq q 1) (rc lq q 2) (rc lq q 3) (rc lq q 4)), .int .i64 (newP (rc lq q 1) (rc lq q 2) (rc lq q 3) (rc lq q 4))], .int .i64 (newE (rc lq q 1) (rc lq q 2) (rc lq q 3) (rc lq q 4))])) none)), (43, (cond (S.getD 12 false) (some (.agg #[.int .i64 0, .int .i64 (newC (rc lq q 1) (rc lq q 2) (rc lq q 3) (rc lq q 4)), .int .i64 (newP (rc lq q 1) (rc lq q 2) (rc lq q 3) (rc lq q 4))])) none)), (44, (cond (S.getD 13 false) (some (.int .i64 (newE (rc lq q 1) (rc lq q 2) (rc lq q 3) (rc lq q 4)))) none))] a ∧ Mem w0.heap.size w0 [(1, some (.ro A (flatR la))), (2, some (.ro A2 (flatR lq))), (3, some (.row bb1 27 #[.slice none 0 0, .slice none 0 0, .int .i64 0, .slice none 0 0, .slice none 0 0])), (4, some (.row bb2 27 #[.slice A la.length ca, .slice A2 lq.length cq_, .int .i64 (-1000), .slice Gk la.length gck, .slice Gq q gcq])), (5, some (.own (.slice Gk la.length gck) 3 1 la.length ((fillT (fun _ => (-1 : Int)) 0 la.length la.length).map (Value.int .i64)))), (7, some (.own (.slice Gq q gcq) 80 3 q (flatR (fillT (mOf lq) [0, 0, 0] q q)))), (10, (cond (S.getD 15 false) (some (.row bb8 80 #[.int .i64 0, .int .i64 (newC (rc lq q 1) (rc lq q 2) (rc lq q 3) (rc lq q 4)), .int .i64 (newP (rc lq q 1) (rc lq q 2) (rc lq q 3) (rc lq q 4))])) (cond (S.getD 14 false) (some (.row bb8 80 #[.int .i64 0, .int .i64 0, .int .i64 0])) none)))] w) ?_ ?_ ?_
      ·exact ⟨0, (((((((((((((((((((((Fr.nil hF).co hF (i := 44) (by kernel_rfl)).co hF (i := 43) (by kernel_rfl)).co hF (i := 42) (by kernel_rfl)).co hF (i := 41) (by kernel_rfl)).co hF (i := 40) (by kernel_rfl)).co hF (i := 39) (by kernel_rfl)).co hF (i := 38) (by kernel_rfl)).co hF (i := 37) (by kernel_rfl)).co hF (i := 36) (by kernel_rfl)).co hF (i := 35) (by kernel_rfl)).co hF (i := 34) (by kernel_rfl)).co hF (i := 33) (by kernel_rfl)).co hF (i := 32) (by kernel_rfl)).co hF (i := 31) (by kernel_rfl)).co hF (i := 10) (by kernel_rfl)).co hF (i := 9) (by kernel_rfl)).co hF (i := 8) (by kernel_rfl)).co hF (i := 6) (by kernel_rfl)).co hF (i := 4) (by kernel_rfl)).co hF (i := 1) (by kernel_rfl)), hM.drew.sub (((((((Sub.nil.co (k := 10) (by kernel_rfl)).co (k := 7) (by kernel_rfl)).co (k := 5) (by kernel_rfl)).co (k := 4) (by kernel_rfl)).co (k := 3) (by kernel_rfl)).co (k := 2) (by kernel_rfl)).co (k := 1) (by kernel_rfl))⟩
      ·refine stC ?_ (stC ?_ (stC ?_ (stC ?_ (stC ?_ (stC ?_ (stC ?_ (stC ?_ (stC ?_ (stC ?_ (stC ?_ (stC ?_ (stC ?_ (stC ?_ (stC ?_ (stC ?_ (stC ?_ (trivial)))))))))))))))))
       ·intro s0 s1 s2 s3 s4 s5 s6 s7 s8 s9 s10 s11 s12 s13 s14 s15 s16 hc hi hp a w hS
        obtain rfl : s0 = false := hi
        obtain ⟨bb8, hF, hM⟩ := hS
        refine eP 32 (v0 := .slice A2 lq.length cq_) (v := .slice A2 lq.length cq_) hF (by kernel_rfl) (fun _ => by kernel_rfl) rfl fun a hF => ?_
        exact ⟨bb8, ((hF.repl 7 (by kernel_rfl)).cast (by kernel_rfl)), (hM.cast (by kernel_rfl))⟩
       ·intro s0 s1 s2 s3 s4 s5 s6 s7 s8 s9 s10 s11 s12 s13 s14 s15 s16 hc hi hp a w hS
        obtain rfl : s1 = false := hi
        obtain ⟨bb8, hF, hM⟩ := hS
        refine eP 33 (v0 := .int .i64 (q : Int)) (v := .int .i64 (q : Int)) hF (by kernel_rfl) (fun _ => by kernel_rfl) rfl fun a hF => ?_
        exact ⟨bb8, ((hF.repl 8 (by kernel_rfl)).cast (by kernel_rfl)), (hM.cast (by kernel_rfl))⟩
       ·intro s0 s1 s2 s3 s4 s5 s6 s7 s8 s9 s10 s11 s12 s13 s14 s15 s16 hc hi hp a w hS
        obtain rfl : s2 = false := hi
        obtain rfl : s1 = true := hp 1 (by kernel_rfl)
        obtain rfl : s0 = true := hp 0 (by kernel_rfl)
        obtain ⟨bb8, hF, hM⟩ := hS
        refine eM 34 (v := .pointer (some (ea A2 (q * 5)))) hF hM (by kernel_rfl) (yld_ix (kd := .i64) (e := 69) (len := lq.length) (cap := cq_) (i := (q : Int)) (size := 5) (A := A2) hF rfl (by kernel_rfl) (by kernel_rfl) (by kernel_rfl) (by kernel_rfl) (by kernel_rfl) (roK 2 rfl) (by omega) (by omega) (by rw [flatR_length hW2]; (try simp only [List.length_map, List.length_append, List.length_replicate, List.length_set, List.length_cons, List.length_nil, flat2_length, List.length_take]); omega)) fun a w hF hM => ?_
        exact ⟨bb8, ((hF.repl 9 (by kernel_rfl)).cast (by kernel_rfl)), (hM.cast (by kernel_rfl))⟩
       ·intro s0 s1 s2 s3 s4 s5 s6 s7 s8 s9 s10 s11 s12 s13 s14 s15 s16 hc hi hp a w hS
        obtain rfl : s3 = false := hi
        obtain rfl : s2 = true := hp 2 (by kernel_rfl)
        obtain ⟨bb8, hF, hM⟩ := hS
        refine eP 35 (v0 := .pointer (some (ea A2 (q * 5 + 1)))) (v := .pointer (some (ea A2 (q * 5 + 1)))) hF (by kernel_rfl) (fun _ => by kernel_rfl) rfl fun a hF => ?_
        exact ⟨bb8, ((hF.repl 10 (by kernel_rfl)).cast (by kernel_rfl)), (hM.cast (by kernel_rfl))⟩
       ·intro s0 s1 s2 s3 s4 s5 s6 s7 s8 s9 s10 s11 s12 s13 s14 s15 s16 hc hi hp a w hS
        obtain rfl : s4 = false := hi
        obtain rfl : s3 = true := hp 3 (by kernel_rfl)
        obtain ⟨bb8, hF, hM⟩ := hS
        refine eM 36 (v := .agg #[.int .i64 (rc lq q 1), .int .i64 (rc lq q 2)]) hF hM (by kernel_rfl) (yld_roM (A := A2) (j := q * 5 + 1) (us := [.int .i64 (rc lq q 1), .int .i64 (rc lq q 2)]) hF rfl (by kernel_rfl) (by kernel_rfl) (roK 2 rfl) (by kernel_rfl) rfl (rc_sub (k := q) (f := 1) (m := 2) hW2 (by omega) (by decide) rfl)) fun a w hF hM => ?_
        exact ⟨bb8, ((hF.repl 11 (by kernel_rfl)).cast (by kernel_rfl)), (hM.cast (by kernel_rfl))⟩
       ·intro s0 s1 s2 s3 s4 s5 s6 s7 s8 s9 s10 s11 s12 s13 s14 s15 s16 hc hi hp a w hS
        obtain rfl : s5 = false := hi
        obtain ⟨bb8, hF, hM⟩ := hS
        refine eP 37 (v0 := .slice A2 lq.length cq_) (v := .slice A2 lq.length cq_) hF (by kernel_rfl) (fun _ => by kernel_rfl) rfl fun a hF => ?_
        exact ⟨bb8, ((hF.repl 12 (by kernel_rfl)).cast (by kernel_rfl)), (hM.cast (by kernel_rfl))⟩
       ·intro s0 s1 s2 s3 s4 s5 s6 s7 s8 s9 s10 s11 s12 s13 s14 s15 s16 hc hi hp a w hS
        obtain rfl : s6 = false := hi
        obtain ⟨bb8, hF, hM⟩ := hS
        refine eP 38 (v0 := .int .i64 (q : Int)) (v := .int .i64 (q : Int)) hF (by kernel_rfl) (fun _ => by kernel_rfl) rfl fun a hF => ?_
        exact ⟨bb8, ((hF.repl 13 (by kernel_rfl)).cast (by kernel_rfl)), (hM.cast (by kernel_rfl))⟩
       ·intro s0 s1 s2 s3 s4 s5 s6 s7 s8 s9 s10 s11 s12 s13 s14 s15 s16 hc hi hp a w hS
        obtain rfl : s7 = false := hi
        obtain rfl : s6 = true := hp 6 (by kernel_rfl)
        obtain rfl : s5 = true := hp 5 (by kernel_rfl)
        obtain ⟨bb8, hF, hM⟩ := hS
        refine eM 39 (v := .pointer (some (ea A2 (q * 5)))) hF hM (by kernel_rfl) (yld_ix (kd := .i64) (e := 69) (len := lq.length) (cap := cq_) (i := (q : Int)) (size := 5) (A := A2) hF rfl (by kernel_rfl) (by kernel_rfl) (by kernel_rfl) (by kernel_rfl) (by kernel_rfl) (roK 2 rfl) (by omega) (by omega) (by rw [flatR_length hW2]; (try simp only [List.length_map, List.length_append, List.length_replicate, List.length_set, List.length_cons, List.length_nil, flat2_length, List.length_take]); omega)) fun a w hF hM => ?_
        exact ⟨bb8, ((hF.repl 14 (by kernel_rfl)).cast (by kernel_rfl)), (hM.cast (by kernel_rfl))⟩
       ·intro s0 s1 s2 s3 s4 s5 s6 s7 s8 s9 s10 s11 s12 s13 s14 s15 s16 hc hi hp a w hS
        obtain rfl : s8 = false := hi
        obtain rfl : s7 = true := hp 7 (by kernel_rfl)
        obtain ⟨bb8, hF, hM⟩ := hS
        refine eP 40 (v0 := .pointer (some (ea A2 (q * 5 + 3)))) (v := .pointer (some (ea A2 (q * 5 + 3)))) hF (by kernel_rfl) (fun _ => by kernel_rfl) rfl fun a hF => ?_
        exact ⟨bb8, ((hF.repl 15 (by kernel_rfl)).cast (by kernel_rfl)), (hM.cast (by kernel_rfl))⟩
       ·intro s0 s1 s2 s3 s4 s5 s6 s7 s8 s9 s10 s11 s12 s13 s14 s15 s16 hc hi hp a w hS
        obtain rfl : s9 = false := hi
        obtain rfl : s8 = true := hp 8 (by kernel_rfl)
        obtain ⟨bb8, hF, hM⟩ := hS
        refine eM 41 (v := .agg #[.int .i64 (rc lq q 3), .int .i64 (rc lq q 4)]) hF hM (by kernel_rfl) (yld_roM (A := A2) (j := q * 5 + 3) (us := [.int .i64 (rc lq q 3), .int .i64 (rc lq q 4)]) hF rfl (by kernel_rfl) (by kernel_rfl) (roK 2 rfl) (by kernel_rfl) rfl (rc_sub (k := q) (f := 3) (m := 2) hW2 (by omega) (by decide) rfl)) fun a w hF hM => ?_
        exact ⟨bb8, ((hF.repl 16 (by kernel_rfl)).cast (by kernel_rfl)), (hM.cast (by kernel_rfl))⟩
       ·intro s0 s1 s2 s3 s4 s5 s6 s7 s8 s9 s10 s11 s12 s13 s14 s15 s16 hc hi hp a w hS
        obtain rfl : s10 = false := hi
        obtain rfl : s9 = true := hp 9 (by kernel_rfl)
        obtain rfl : s4 = true := hp 4 (by kernel_rfl)
        obtain ⟨bb8, hF, hM⟩ := hS
        refine eM 42 (v := .tuple #[.agg #[.int .i64 0, .int .i64 (newC (rc lq q 1) (rc lq q 2) (rc lq q 3) (rc lq q 4)), .int .i64 (newP (rc lq q 1) (rc lq q 2) (rc lq q 3) (rc lq q 4))], .int .i64 (newE (rc lq q 1) (rc lq q 2) (rc lq q 3) (rc lq q 4))]) hF hM (by kernel_rfl) (yld_call (f := 34) (args := #[.agg #[.int .i64 (rc lq q 1), .int .i64 (rc lq q 2)], .agg #[.int .i64 (rc lq q 3), .int .i64 (rc lq q 4)]]) hF (by kernel_rfl) (fun _ => by kernel_rfl) (fun w hM => refNew_w (rc lq q 1) (rc lq q 2) (rc lq q 3) (rc lq q 4) w)) fun a w hF hM => ?_
        exact ⟨bb8, ((hF.repl 17 (by kernel_rfl)).cast (by kernel_rfl)), (hM.cast (by kernel_rfl))⟩
       ·intro s0 s1 s2 s3 s4 s5 s6 s7 s8 s9 s10 s11 s12 s13 s14 s15 s16 hc hi hp a w hS
        obtain rfl : s11 = false := hi
        obtain rfl : s10 = true := hp 10 (by kernel_rfl)
        obtain ⟨bb8, hF, hM⟩ := hS
        refine eP 31 (v0 := .tuple #[.agg #[.int .i64 0, .int .i64 (newC (rc lq q 1) (rc lq q 2) (rc lq q 3) (rc lq q 4)), .int .i64 (newP (rc lq q 1) (rc lq q 2) (rc lq q 3) (rc lq q 4))], .int .i64 (newE (rc lq q 1) (rc lq q 2) (rc lq q 3) (rc lq q 4))]) (v := .tuple #[.agg #[.int .i64 0, .int .i64 (newC (rc lq q 1) (rc lq q 2) (rc lq q 3) (rc lq q 4)), .int .i64 (newP (rc lq q 1) (rc lq q 2) (rc lq q 3) (rc lq q 4))], .int .i64 (newE (rc lq q 1) (rc lq q 2) (rc lq q 3) (rc lq q 4))]) hF (by kernel_rfl) (fun _ => by kernel_rfl) rfl fun a hF => ?_
        exact ⟨bb8, ((hF.repl 6 (by kernel_rfl)).cast (by kernel_rfl)), (hM.cast (by kernel_rfl))⟩
       ·intro s0 s1 s2 s3 s4 s5 s6 s7 s8 s9 s10 s11 s12 s13 s14 s15 s16 hc hi hp a w hS
        obtain rfl : s12 = false := hi
        obtain rfl : s11 = true := hp 11 (by kernel_rfl)
        obtain ⟨bb8, hF, hM⟩ := hS
        refine eP 43 (v0 := .agg #[.int .i64 0, .int .i64 (newC (rc lq q 1) (rc lq q 2) (rc lq q 3) (rc lq q 4)), .int .i64 (newP (rc lq q 1) (rc lq q 2) (rc lq q 3) (rc lq q 4))]) (v := .agg #[.int .i64 0, .int .i64 (newC (rc lq q 1) (rc lq q 2) (rc lq q 3) (rc lq q 4)), .int .i64 (newP (rc lq q 1) (rc lq q 2) (rc lq q 3) (rc lq q 4))]) hF (by kernel_rfl) (fun _ => by kernel_rfl) rfl fun a hF => ?_
        exact ⟨bb8, ((hF.repl 18 (by kernel_rfl)).cast (by kernel_rfl)), (hM.cast (by kernel_rfl))⟩
       ·intro s0 s1 s2 s3 s4 s5 s6 s7 s8 s9 s10 s11 s12 s13 s14 s15 s16 hc hi hp a w hS
        obtain rfl : s13 = false := hi
        obtain rfl : s11 = true := hp 11 (by kernel_rfl)
        obtain ⟨bb8, hF, hM⟩ := hS
        refine eP 44 (v0 := .int .i64 (newE (rc lq q 1) (rc lq q 2) (rc lq q 3) (rc lq q 4))) (v := .int .i64 (newE (rc lq q 1) (rc lq q 2) (rc lq q 3) (rc lq q 4))) hF (by kernel_rfl) (fun _ => by kernel_rfl) rfl fun a hF => ?_
        exact ⟨bb8, ((hF.repl 19 (by kernel_rfl)).cast (by kernel_rfl)), (hM.cast (by kernel_rfl))⟩
       ·intro s0 s1 s2 s3 s4 s5 s6 s7 s8 s9 s10 s11 s12 s13 s14 s15 s16 hc hi hp a w hS
        obtain rfl : s14 = false := hi
        obtain rfl : s15 = false := hc.f 15 14 (by kernel_rfl) rfl
        obtain ⟨bb8, hF, hM⟩ := hS
        refine eN 9 10 (t := 80) (fun b => .pointer (some ⟨b, 0, none⟩)) #[.int .i64 0, .int .i64 0, .int .i64 0] hF hM (by kernel_rfl) (fun _ => by kernel_rfl) fun bb8 a w hF hM => ?_
        exact ⟨bb8, ((hF.repl 4 (by kernel_rfl)).cast (by kernel_rfl)), ((hM.repl 6 (by kernel_rfl)).cast (by kernel_rfl))⟩
       ·intro s0 s1 s2 s3 s4 s5 s6 s7 s8 s9 s10 s11 s12 s13 s14 s15 s16 hc hi hp a w hS
        obtain rfl : s15 = false := hi
        obtain rfl : s14 = true := hp 14 (by kernel_rfl)
        obtain rfl : s12 = true := hp 12 (by kernel_rfl)
        obtain ⟨bb8, hF, hM⟩ := hS
        refine sStore (i := 10) (off := 0) (cs' := #[.int .i64 0, .int .i64 (newC (rc lq q 1) (rc lq q 2) (rc lq q 3) (rc lq q 4)), .int .i64 (newP (rc lq q 1) (rc lq q 2) (rc lq q 3) (rc lq q 4))]) hF hM (by kernel_rfl) rfl rfl (by kernel_rfl) (by kernel_rfl) rfl (by kernel_rfl) fun w hM => ?_
        exact ⟨bb8, (hF.cast (by kernel_rfl)), ((hM.repl 6 (by kernel_rfl)).cast (by kernel_rfl))⟩
       ·intro s0 s1 s2 s3 s4 s5 s6 s7 s8 s9 s10 s11 s12 s13 s14 s15 s16 hc hi hp a w hS
        obtain rfl : s16 = false := hi
        obtain rfl : s13 = true := hp 13 (by kernel_rfl)
        obtain ⟨bb8, hF, hM⟩ := hS
        refine eP 10 (v0 := .int .i64 (newE (rc lq q 1) (rc lq q 2) (rc lq q 3) (rc lq q 4))) (v := .int .i64 (newE (rc lq q 1) (rc lq q 2) (rc lq q 3) (rc lq q 4))) hF (by kernel_rfl) (fun _ => by kernel_rfl) rfl fun a hF => ?_
        exact ⟨bb8, ((hF.repl 5 (by kernel_rfl)).cast (by kernel_rfl)), (hM.cast (by kernel_rfl))⟩
      ·intro a w hS
       obtain ⟨bb8, hF, hM⟩ := hS
       replace hF : Fr 59 [(1, some (.slice A2 lq.length cq_)), (4, some (.pointer (some ⟨bb1, 0, none⟩))), (6, some (.pointer (some ⟨bb2, 0, none⟩))), (8, some (.int .i64 (q : Int))), (9, some (.pointer (some ⟨bb8, 0, none⟩))), (10, some (.int .i64 (newE (rc lq q 1) (rc lq q 2) (rc lq q 3) (rc lq q 4)))), (31, some (.tuple #[.agg #[.int .i64 0, .int .i64 (newC (rc lq q 1) (rc lq q 2) (rc lq q 3) (rc lq q 4)), .int .i64 (newP (rc lq q 1) (rc lq q 2) (rc lq q 3) (rc lq q 4))], .int .i64 (newE (rc lq q 1) (rc lq q 2) (rc lq q 3) (rc lq q 4))])), (32, some (.slice A2 lq.length cq_)), (33, some (.int .i64 (q : Int))), (34, some (.pointer (some (ea A2 (q * 5))))), (35, some (.pointer (some (ea A2 (q * 5 + 1))))), (36, some (.agg #[.int .i64 (rc lq q 1), .int .i64 (rc lq q 2)])), (37, some (.slice A2 lq.length cq_)), (38, some (.int .i64 (q : Int))), (39, some (.pointer (some (ea A2 (q * 5))))), (40, some (.pointer (some (ea A2 (q * 5 + 3))))), (41, some (.agg #[.int .i64 (rc lq q 3), .int .i64 (rc lq q 4)])), (42, some (.tuple #[.agg #[.int .i64 0, .int .i64 (newC (rc lq q 1) (rc lq q 2) (rc lq q 3) (rc lq q 4)), .int .i64 (newP (rc lq q 1) (rc lq q 2) (rc lq q 3) (rc lq q 4))], .int .i64 (newE (rc lq q 1) (rc lq q 2) (rc lq q 3) (rc lq q 4))])), (43, some (.agg #[.int .i64 0, .int .i64 (newC (rc lq q 1) (rc lq q 2) (rc lq q 3) (rc lq q 4)), .int .i64 (newP (rc lq q 1) (rc lq q 2) (rc lq q 3) (rc lq q 4))])), (44, some (.int .i64 (newE (rc lq q 1) (rc lq q 2) (rc lq q 3) (rc lq q 4))))] a := hF.cast (by kernel_rfl)
       replace hM : Mem w0.heap.size w0 [(1, some (.ro A (flatR la))), (2, some (.ro A2 (flatR lq))), (3, some (.row bb1 27 #[.slice none 0 0, .slice none 0 0, .int .i64 0, .slice none 0 0, .slice none 0 0])), (4, some (.row bb2 27 #[.slice A la.length ca, .slice A2 lq.length cq_, .int .i64 (-1000), .slice Gk la.length gck, .slice Gq q gcq])), (5, some (.own (.slice Gk la.length gck) 3 1 la.length ((fillT (fun _ => (-1 : Int)) 0 la.length la.length).map (Value.int .i64)))), (7, some (.own (.slice Gq q gcq) 80 3 q (flatR (fillT (mOf lq) [0, 0, 0] q q)))), (10, some (.row bb8 80 #[.int .i64 0, .int .i64 (newC (rc lq q 1) (rc lq q 2) (rc lq q 3) (rc lq q 4)), .int .i64 (newP (rc lq q 1) (rc lq q 2) (rc lq q 3) (rc lq q 4))]))] w := hM.cast (by kernel_rfl)
       refine hK15 _ _ ?_
       refine wp_seq_k fun K18 hK18 => ?_
       refine wp_seq_k fun K19 hK19 => ?_
       refine wp_region_lit ?_
       refine sB 1 [(45, .int .i64 (newE (rc lq q 1) (rc lq q 2) (rc lq q 3) (rc lq q 4)))] hF (by kernel_rfl) fun a hF => ?_
       refine wl (eP 46 (v0 := .bool (!decide (newE (rc lq q 1) (rc lq q 2) (rc lq q 3) (rc lq q 4) = 0))) (v := .bool true) hF (by kernel_rfl) (fun _ => by kernel_rfl) (nF hz5) fun a hF => ?_)
       refine wpList_nil ?_
       refine hK19 _ _ ?_
       refine cT hF (by kernel_rfl) (by kernel_rfl) ?_
       refine wp_seq_k fun K20 hK20 => ?_
       refine wp_region_lit ?_
       refine sB 1 [(47, .agg #[.slice none 0 0, .slice none 0 0, .int .i64 0, .slice none 0 0, .slice none 0 0])] hF (by kernel_rfl) fun a hF => ?_
       refine wl (sStore (i := 3) (off := 0) (cs' := #[.slice none 0 0, .slice none 0 0, .int .i64 0, .slice none 0 0, .slice none 0 0]) hF hM (by kernel_rfl) rfl rfl (by kernel_rfl) (by kernel_rfl) rfl (by kernel_rfl) fun w hM => ?_)
       refine sB 1 [(5, .bool false)] hF (by kernel_rfl) fun a hF => ?_
       refine wpList_nil ?_
       refine hK20 _ _ ?_
       refine wp_ret ?_
       refine hR0 _ _ ?_
       refine ret_of hF hM (.cell (i := 3) rfl rfl (v := .agg #[.slice none 0 0, .slice none 0 0, .int .i64 0, .slice none 0 0, .slice none 0 0]) (by kernel_rfl) (.tmp rfl (.nil))) ?_
       have := li_q h (k := q) (by omega)
       omega
    ·skip
     replace hF := hF.c hF (i := 28) (v := .bool false) rfl (bF hz4)
     refine cF hF (by kernel_rfl) (by kernel_rfl) ?_
     refine wp_exit ?_
     refine hK9 _ _ ?_
     refine wp_seq_k fun K21 hK21 => ?_
     refine wp_seq_k fun K22 hK22 => ?_
     obtain rfl : q = lq.length := by omega
     have hfr := fr_new h
     refine wp_region_lit ?_
     refine wl (eL 54 4 0 (v := .agg #[.slice A la.length ca, .slice A2 lq.length cq_, .int .i64 (-1000), .slice Gk la.length gck, .slice Gq lq.length gcq]) hF hM (by kernel_rfl) rfl rfl (by kernel_rfl) (by kernel_rfl) fun a w hF hM => ?_)
     refine wl (eM 55 (v := .bool true) hF hM (by kernel_rfl) (Yld.to (yld_call (f := 11) (args := #[.agg #[.slice A la.length ca, .slice A2 lq.length cq_, .int .i64 (-1000), .slice Gk la.length gck, .slice Gq lq.length gcq]]) hF (by kernel_rfl) (fun _ => by kernel_rfl) (fun w hM => rRight33_x A la ca A2 lq cq_ (-1000) Gk (nwL la) gck Gq (nwM lq) gcq w (hM.ok 1 _ rfl) hW (hM.ok 2 _ rfl) hW2 (ro_of_own (hM.ok 5 _ rfl)) (ro_of_own (hM.ok 7 _ rfl)) nwM_wr rfl rfl nwL_len nwM_len)) (congrArg Value.bool hfr)) fun a w hF hM => ?_)
     refine sB 1 [(56, .bool false)] hF (by kernel_rfl) fun a hF => ?_
     refine wpList_nil ?_
     refine hK22 _ _ ?_
     refine cF hF (by kernel_rfl) (by kernel_rfl) ?_
     refine wp_skip ?_
     refine hK21 _ _ ?_
     refine wp_seq_k fun K23 hK23 => ?_
     refine wp_region_lit ?_
     refine wl (eL 58 4 0 (v := .agg #[.slice A la.length ca, .slice A2 lq.length cq_, .int .i64 (-1000), .slice Gk la.length gck, .slice Gq lq.length gcq]) hF hM (by kernel_rfl) rfl rfl (by kernel_rfl) (by kernel_rfl) fun a w hF hM => ?_)
     refine wl (sStore (i := 3) (off := 0) (cs' := #[.slice A la.length ca, .slice A2 lq.length cq_, .int .i64 (-1000), .slice Gk la.length gck, .slice Gq lq.length gcq]) hF hM (by kernel_rfl) rfl rfl (by kernel_rfl) (by kernel_rfl) rfl (by kernel_rfl) fun w hM => ?_)
     refine sB 1 [(5, .bool true)] hF (by kernel_rfl) fun a hF => ?_
     refine wpList_nil ?_
     refine hK23 _ _ ?_
     refine wp_ret ?_
     refine hR0 _ _ ?_
     refine ret_of hF hM (.cell (i := 3) rfl rfl (v := .agg #[.slice A la.length ca, .slice A2 lq.length cq_, .int .i64 (-1000), .slice Gk la.length gck, .slice Gq lq.length gcq]) (by kernel_rfl) (.tmp rfl (.nil))) ?_
     subst e3 e4
     exact ⟨_, _, _, _, rfl, hM.ownNew (k := 5) rfl, hM.ownNew (k := 7) rfl, hM.bel⟩

end Go.Proofs.Ytogeficooemngaa
