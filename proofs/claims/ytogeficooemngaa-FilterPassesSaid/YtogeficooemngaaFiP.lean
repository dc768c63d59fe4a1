/-
  The reference Pass.
-/
import Derived.Test.YtogeficooemngaaFiO
import Derived.Test.YtogeficooemngaaFiI
namespace Go.Proofs.Ytogeficooemngaa
open Go.RowKit
set_option linter.unusedVariables false
set_option linter.unusedSimpArgs false

set_option maxRecDepth 100000 in
set_option maxHeartbeats 8000000 in
theorem rPass33_w (A : Option Addr) (la : List (List Int)) (ca : Nat) (A2 : Option Addr) (lq : List (List Int)) (cq_ : Nat) (now : Int) (A3 : Option Addr) (ls : List Int) (cs : Nat) (A4 : Option Addr) (lm : List (List Int)) (cm : Nat) (port i1 i2 i3 i4 i5 t : Int) (w0 : World) (hA : Ro w0 A (flatR la)) (hW : WR 7 la) (hA2 : Ro w0 A2 (flatR lq)) (hW2 : WR 5 lq) (hA3 : Ro w0 A3 (ls.map (Value.int .i64))) (hA4 : Ro w0 A4 (flatR lm)) (hW4 : WR 3 lm) (h0 : flE la lq now ls lm = 0) (hp : 0 ≤ port ∧ port ≤ 47) (hv : viB i1 i2 i3 i4 i5 = true) (ht : now ≤ t ∧ t ≤ 549755813888) (hn3 : A3 = none → ls.length = 0 ∧ cs = 0) (hn4 : A4 = none → lm.length = 0 ∧ cm = 0) {ls1 : List Int} {lm1 : List (List Int)} {v1 : Int} {n3 n4 : Nat} (e : psR la lq ls lm port i1 i3 i4 t = (ls1, lm1, v1)) (e3 : ls.length = n3) (e4 : lm.length = n4) :
    Calls Try.prog 20 #[.agg #[.slice A la.length ca, .slice A2 lq.length cq_, .int .i64 now, .slice A3 ls.length cs, .slice A4 lm.length cm], .int .i64 port, .agg #[.int .i64 i1, .int .i64 i2, .int .i64 i3, .int .i64 i4, .int .i64 i5], .int .i64 t] w0 (RetRo2 w0 (fun x y => .tuple #[.agg #[.slice A la.length ca, .slice A2 lq.length cq_, .int .i64 t, x, y], .int .i64 v1]) A3 A4 n3 n4 (ls1.map (Value.int .i64)) (flatR lm1)) := by
 refine enterK 122 Try.func20 rfl rfl rfl ?_
 intro a hF Q0 hR0 hN0
 have hM := Mem.start w0
 replace hM := hM.addOld 1 hA (Nat.le_refl _)
 replace hM := hM.addOld 2 hA2 (Nat.le_refl _)
 replace hM := hM.addOld 3 hA3 (Nat.le_refl _)
 replace hM := hM.addOld 4 hA4 (Nat.le_refl _)
 refine wp_seq_k fun K1 hK1 => ?_
 refine wp_region_lit ?_
 refine wl (eN 4 5 (t := 27) (fun b => .pointer (some ⟨b, 0, none⟩)) #[.slice A la.length ca, .slice A2 lq.length cq_, .int .i64 now, .slice A3 ls.length cs, .slice A4 lm.length cm] hF hM (by kernel_rfl) (fun _ => by kernel_rfl) fun bb1 a w hF hM => ?_)
 refine wl (eN 6 6 (t := 39) (fun b => .pointer (some ⟨b, 0, none⟩)) #[.int .i64 i1, .int .i64 i2, .int .i64 i3, .int .i64 i4, .int .i64 i5] hF hM (by kernel_rfl) (fun _ => by kernel_rfl) fun bb2 a w hF hM => ?_)
 refine wl (eN 8 7 (t := 27) (fun b => .pointer (some ⟨b, 0, none⟩)) #[.slice none 0 0, .slice none 0 0, .int .i64 0, .slice none 0 0, .slice none 0 0] hF hM (by kernel_rfl) (fun _ => by kernel_rfl) fun bb3 a w hF hM => ?_)
 refine sB 1 [(9, .int .i64 0)] hF (by kernel_rfl) fun a hF => ?_
 refine wpList_nil ?_
 refine hK1 _ _ ?_
 refine wp_seq_k fun K2 hK2 => ?_
 have hln := fl_len (fl_p h0)
 have hvi := vi_bd hv
 refine wp_region_lit ?_
 refine sB 2 [(21, .int .i64 t), (22, .pointer (some ⟨bb1, 2, none⟩))] hF (by kernel_rfl) fun a hF => ?_
 refine wl (sStore (i := 5) (off := 2) (cs' := #[.slice A la.length ca, .slice A2 lq.length cq_, .int .i64 t, .slice A3 ls.length cs, .slice A4 lm.length cm]) hF hM (by kernel_rfl) rfl rfl (by kernel_rfl) (by kernel_rfl) rfl (by kernel_rfl) fun w hM => ?_)
 refine wpList_nil ?_
 refine hK2 _ _ ?_
 refine wp_seq_k fun K3 hK3 => ?_
 refine wp_seq_k fun K4 hK4 => ?_
 refine wp_region_lit ?_
 refine sB 1 [(23, .pointer (some ⟨bb2, 2, none⟩))] hF (by kernel_rfl) fun a hF => ?_
 refine wl (eL 24 6 2 (v := .int .i64 i3) hF hM (by kernel_rfl) rfl rfl (by kernel_rfl) (by kernel_rfl) fun a w hF hM => ?_)
 refine sB 1 [(25, .bool (decide (i3 ≤ 5)))] hF (by kernel_rfl) fun a hF => ?_
 refine wpList_nil ?_
 refine hK4 _ _ ?_
 by_cases hz1 : i3 ≤ 5
 ·skip
  replace hF := hF.c hF (i := 25) (v := .bool true) rfl (bT hz1)
  refine cT hF (by kernel_rfl) (by kernel_rfl) ?_
  refine wp_seq_k fun K5 hK5 => ?_
  refine wp_seq_k fun K6 hK6 => ?_
  refine wp_region_lit ?_
  refine sB 1 [(10, .int .i64 0)] hF (by kernel_rfl) fun a hF => ?_
  refine wpList_nil ?_
  refine hK6 _ _ ?_
  refine wp_block ?_
  replace hM := hM.roMore 8 4 (xs' := flatR lm) rfl (fun _ _ h => h)
  refine wp_loop_k (G := Nat × List (List Int) × Option Addr × Nat) (fun gg a w => Fr 122 [(10, some (.int .i64 (gg.1 : Int))), (1, some (.int .i64 port)), (3, some (.int .i64 t)), (4, some (.pointer (some ⟨bb1, 0, none⟩))), (6, some (.pointer (some ⟨bb2, 0, none⟩))), (8, some (.pointer (some ⟨bb3, 0, none⟩)))] a ∧ Mem w0.heap.size w0 [(1, some (.ro A (flatR la))), (2, some (.ro A2 (flatR lq))), (3, some (.ro A3 (ls.map (Value.int .i64)))), (4, some (.ro A4 (flatR lm))), (5, some (.row bb1 27 #[.slice A la.length ca, .slice A2 lq.length cq_, .int .i64 t, .slice A3 ls.length cs, .slice gg.2.2.1 gg.2.1.length gg.2.2.2])), (6, some (.row bb2 39 #[.int .i64 i1, .int .i64 i2, .int .i64 i3, .int .i64 i4, .int .i64 i5])), (7, some (.row bb3 27 #[.slice none 0 0, .slice none 0 0, .int .i64 0, .slice none 0 0, .slice none 0 0])), (8, some (.ro gg.2.2.1 (flatR gg.2.1)))] w ∧ ((gg.1 : Int) ≤ (lq.length : Int)) ∧ (PsAt lq lm port t i4 gg.1 gg.2.1) ∧ (WR 3 gg.2.1) ∧ ((gg.2.1.length : Int) = (lm.length : Int)) ∧ (gg.2.2.1 = none → gg.2.1.length = 0 ∧ gg.2.2.2 = 0) ∧ (Gok w0 A4 gg.2.2.1)) (fun gg => lq.length - gg.1) (0, lm, A4, cm) ?_ ?_
  ·refine ⟨(((((((Fr.nil hF).c hF (i := 8) rfl rfl).c hF (i := 6) rfl rfl).c hF (i := 4) rfl rfl).c hF (i := 3) rfl rfl).c hF (i := 1) rfl rfl).c hF (i := 10) rfl (vi (show (0 : Int) = (0 : Int) from by omega))), (hM.sub ((((((((Sub.nil.c (k := 8) rfl rfl).c (k := 7) rfl rfl).c (k := 6) rfl rfl).c (k := 5) rfl rfl).c (k := 4) rfl rfl).c (k := 3) rfl rfl).c (k := 2) rfl rfl).c (k := 1) rfl rfl)), (show (0 : Int) ≤ (lq.length : Int) from by omega), (show PsAt lq lm port t i4 0 lm from by exact PsAt.zero), (show WR 3 lm from by exact hW4), (show (lm.length : Int) = (lm.length : Int) from by rfl), (show A4 = none → lm.length = 0 ∧ cm = 0 from by exact hn4), (show Gok w0 A4 A4 from by exact .inl rfl)⟩
  ·intro gg a w hI
   intro K7 hK7
   obtain ⟨q, mm, G, gc⟩ := gg
   try dsimp only at hI hK7
   obtain ⟨hF, hM, hz2, hz3, hz4, hz5, hz6, hz7⟩ := hI
   refine wp_seq_k fun K8 hK8 => ?_
   refine wp_seq_k fun K9 hK9 => ?_
   refine wp_region_lit ?_
   refine sB 2 [(26, .int .i64 (q : Int)), (27, .pointer (some ⟨bb1, 1, none⟩))] hF (by kernel_rfl) fun a hF => ?_
   refine wl (eL 28 5 1 (v := .slice A2 lq.length cq_) hF hM (by kernel_rfl) rfl rfl (by kernel_rfl) (by kernel_rfl) fun a w hF hM => ?_)
   refine sB 2 [(29, .int .i64 (lq.length : Int)), (30, .bool (decide ((q : Int) < (lq.length : Int))))] hF (by kernel_rfl) fun a hF => ?_
   refine wpList_nil ?_
   refine hK9 _ _ ?_
   by_cases hz8 : (q : Int) < (lq.length : Int)
   ·skip
    replace hF := hF.c hF (i := 30) (v := .bool true) rfl (bT hz8)
    refine cT hF (by kernel_rfl) (by kernel_rfl) ?_
    refine wp_skip ?_
    refine hK8 _ _ ?_
    refine wp_seq_k fun K10 hK10 => ?_
    refine wp_block ?_
    refine wp_seq_k fun K11 hK11 => ?_
    refine wp_region_lit ?_
    refine sB 1 [(33, .pointer (some ⟨bb1, 1, none⟩))] hF (by kernel_rfl) fun a hF => ?_
    refine wl (eL 34 5 1 (v := .slice A2 lq.length cq_) hF hM (by kernel_rfl) rfl rfl (by kernel_rfl) (by kernel_rfl) fun a w hF hM => ?_)
    refine sB 1 [(35, .int .i64 (q : Int))] hF (by kernel_rfl) fun a hF => ?_
    refine wl (eM 36 (v := .pointer (some (ea A2 (q * 5)))) hF hM (by kernel_rfl) (yld_ix (kd := .i64) (e := 69) (len := lq.length) (cap := cq_) (i := (q : Int)) (size := 5) (A := A2) hF rfl (by kernel_rfl) (by kernel_rfl) (by kernel_rfl) (by kernel_rfl) (by kernel_rfl) (roK 2 rfl) (by omega) (by omega) (by rw [flatR_length hW2]; (try simp only [List.length_map, List.length_append, List.length_replicate, List.length_set, List.length_cons, List.length_nil, flat2_length, List.length_take]); omega)) fun a w hF hM => ?_)
    refine wl (eM 37 (v := .agg #[.int .i64 (rc lq q 0), .int .i64 (rc lq q 1), .int .i64 (rc lq q 2), .int .i64 (rc lq q 3), .int .i64 (rc lq q 4)]) hF hM (by kernel_rfl) (yld_roM (A := A2) (j := q * 5) (us := [.int .i64 (rc lq q 0), .int .i64 (rc lq q 1), .int .i64 (rc lq q 2), .int .i64 (rc lq q 3), .int .i64 (rc lq q 4)]) hF rfl (by kernel_rfl) (by kernel_rfl) (roK 2 rfl) (by kernel_rfl) rfl (rc_sub (k := q) (f := 0) (m := 5) hW2 (by omega) (by decide) rfl)) fun a w hF hM => ?_)
    refine wl (eN 11 9 (t := 69) (fun b => .pointer (some ⟨b, 0, none⟩)) #[.int .i64 0, .int .i64 0, .int .i64 0, .int .i64 0, .int .i64 0] hF hM (by kernel_rfl) (fun _ => by kernel_rfl) fun bb4 a w hF hM => ?_)
    refine wl (sStore (i := 9) (off := 0) (cs' := #[.int .i64 (rc lq q 0), .int .i64 (rc lq q 1), .int .i64 (rc lq q 2), .int .i64 (rc lq q 3), .int .i64 (rc lq q 4)]) hF hM (by kernel_rfl) rfl rfl (by kernel_rfl) (by kernel_rfl) rfl (by kernel_rfl) fun w hM => ?_)
    refine wpList_nil ?_
    refine hK11 _ _ ?_
    refine wp_seq_k fun K12 hK12 => ?_
    refine wp_seq_k fun K13 hK13 => ?_
    refine wp_region_lit ?_
    refine sB 1 [(38, .pointer (some ⟨bb4, 0, none⟩))] hF (by kernel_rfl) fun a hF => ?_
    refine wl (eL 39 9 0 (v := .int .i64 (rc lq q 0)) hF hM (by kernel_rfl) rfl rfl (by kernel_rfl) (by kernel_rfl) fun a w hF hM => ?_)
    refine sB 2 [(40, .int .i64 port), (41, .bool (!decide (rc lq q 0 = port)))] hF (by kernel_rfl) fun a hF => ?_
    refine wpList_nil ?_
    refine hK13 _ _ ?_
    by_cases hz9 : rc lq q 0 = port
    ·skip
     replace hF := hF.c hF (i := 41) (v := .bool false) rfl (nT hz9)
     refine cF hF (by kernel_rfl) (by kernel_rfl) ?_
     refine wp_skip ?_
     refine hK12 _ _ ?_
     refine wp_seq_k fun K14 hK14 => ?_
     have hmm := PsAt.first (lm0 := lm) (mm := mm) (by assumption) h0 (show q < lq.length by omega) (by omega)
     have hmk : mkE (rc lq q 1) (rc lq q 2) (rc lq q 3) (rc lq q 4) (rc mm q 0) (rc mm q 1) (rc mm q 2) (t + 1000) i4 = 0 := by rw [hmm.1]; exact mk_k h0 (by omega) ht (by omega)
     have hz10 := mkE_ok hmk
     have hz11 := hz10.1
     have hz12 := mtE_ok hz11
     have hz13 := hz12.1
     have hz14 := newE_ok hz13
     refine rF (by kernel_rfl) (by kernel_rfl) (fun S a w => ∃ bb5 : Nat, Fr 122 [(1, some (.int .i64 port)), (3, some (.int .i64 t)), (4, some (.pointer (some ⟨bb1, 0, none⟩))), (6, some (.pointer (some ⟨bb2, 0, none⟩))), (8, some (.pointer (some ⟨bb3, 0, none⟩))), (10, some (.int .i64 (q : Int))), (11, some (.pointer (some ⟨bb4, 0, none⟩))), (12, (cond (S.getD 19 false) (some (.int .i64 (mkCol (rc lq q 1) (rc lq q 2) (rc lq q 3) (rc lq q 4) (rc mm q 0) (rc mm q 1) (rc mm q 2) (t + 1000) i4))) none)), (13, (cond (S.getD 18 false) (some (.pointer (some ⟨bb5, 0, none⟩))) none)), (14, (cond (S.getD 21 false) (some (.int .i64 (mkE (rc lq q 1) (rc lq q 2) (rc lq q 3) (rc lq q 4) (rc mm q 0) (rc mm q 1) (rc mm q 2) (t + 1000) i4))) none)), (42, (cond (S.getD 14 false) (some (.tuple #[.int .i64 (mkCol (rc lq q 1) (rc lq q 2) (rc lq q 3) (rc lq q 4) (rc mm q 0) (rc mm q 1) (rc mm q 2) (t + 1000) i4), .agg #[.int .i64 (mkL (rc lq q 1) (rc lq q 2) (rc lq q 3) (rc lq q 4) (rc mm q 0) (rc mm q 1) (rc mm q 2) (t + 1000) i4), .int .i64 (mkC (rc lq q 1) (rc lq q 2) (rc lq q 3) (rc lq q 4) (rc mm q 0) (rc mm q 1) (rc mm q 2) (t + 1000) i4), .int .i64 (mkP (rc lq q 1) (rc lq q 2) (rc lq q 3) (rc lq q 4) (rc mm q 0) (rc mm q 1) (rc mm q 2) (t + 1000) i4)], .int .i64 (mkE (rc lq q 1) (rc lq q 2) (rc lq q 3) (rc lq q 4) (rc mm q 0) (rc mm q 1) (rc mm q 2) (t + 1000) i4)])) none)), (43, (cond (S.getD 0 false) (some (.pointer (some ⟨bb4, 1, none⟩))) none)), (44, (cond (S.getD 1 false) (some (.agg #[.int .i64 (rc lq q 1), .int .i64 (rc lq q 2)])) none)), (45, (cond (S.getD 2 false) (some (.pointer (some ⟨bb4, 3, none⟩))) none)), (46, (cond (S.getD 3 false) (some (.agg #[.int .i64 (rc lq q 3), .int .i64 (rc lq q 4)])) none)), (47, (cond (S.getD 4 false) (some (.pointer (some ⟨bb1, 4, none⟩))) none)), (48, (cond (S.getD 5 false) (some (.slice G mm.length gc)) none)), (49, (cond (S.getD 6 false) (some (.int .i64 (q : Int))) none)), (50, (cond (S.getD 7 false) (some (.pointer (some (ea G (q * 3))))) none)), (51, (cond (S.getD 8 false) (some (.agg #[.int .i64 (rc mm q 0), .int .i64 (rc mm q 1), .int .i64 (rc mm q 2)])) none)), (52, (cond (S.getD 9 false) (some (.int .i64 t)) none)), (53, (cond (S.getD 10 false) (some (.int .i64 (t + 1000))) none)), (54, (cond (S.getD 11 false) (some (.pointer (some ⟨bb2, 3, none⟩))) none)), (55, (cond (S.getD 12 false) (some (.int .i64 i4)) none)), (56, (cond (S.getD 13 false) (some (.tuple #[.int .i64 (mkCol (rc lq q 1) (rc lq q 2) (rc lq q 3) (rc lq q 4) (rc mm q 0) (rc mm q 1) (rc mm q 2) (t + 1000) i4), .agg #[.int .i64 (mkL (rc lq q 1) (rc lq q 2) (rc lq q 3) (rc lq q 4) (rc mm q 0) (rc mm q 1) (rc mm q 2) (t + 1000) i4), .int .i64 (mkC (rc lq q 1) (rc lq q 2) (rc lq q 3) (rc lq q 4) (rc mm q 0) (rc mm q 1) (rc mm q 2) (t + 1000) i4), .int .i64 (mkP (rc lq q 1) (rc lq q 2) (rc lq q 3) (rc lq q 4) (rc mm q 0) (rc mm q 1) (rc mm q 2) (t + 1000) i4)], .int .i64 (mkE (rc lq q 1) (rc lq q 2) (rc lq q 3) (rc lq q 4) (rc mm q 0) (rc mm q 1) (rc mm q 2) (t + 1000) i4)])) none)), (57, (cond (S.getD 15 false) (some (.int .i64 (mkCol (rc lq q 1) (rc lq q 2) (rc lq q 3) (rc lq q 4) (rc mm q 0) (rc mm q 1) (rc mm q 2) (t + 1000) i4))) none)), (58, (cond (S.getD 16 false) (some (.agg #[.int .i64 (mkL (rc lq q 1) (rc lq q 2) (rc lq q 3) (rc lq q 4) (rc mm q 0) (rc mm q 1) (rc mm q 2) (t + 1000) i4), .int .i64 (mkC (rc lq q 1) (rc lq q 2) (rc lq q 3) (rc lq q 4) (rc mm q 0) (rc mm q 1) (rc mm q 2) (t + 1000) i4), .int .i64 (mkP (rc lq q 1) (rc lq q 2) (rc lq q 3) (rc lq q 4) (rc mm q 0) (rc mm q 1) (rc mm q 2) (t + 1000) i4)])) none)), (59, (cond (S.getD 17 false) (some (.int .i64 (mkE (rc lq q 1) (rc lq q 2) (rc lq q 3) (rc lq q 4) (rc mm q 0) (rc mm q 1) (rc mm q 2) (t + 1000) i4))) none))] a ∧ Mem w0.heap.size w0 [(1, some (.ro A (flatR la))), (2, some (.ro A2 (flatR lq))), (3, some (.ro A3 (ls.map (Value.int .i64)))), (4, some (.ro A4 (flatR lm))), (5, some (.row bb1 27 #[.slice A la.length ca, .slice A2 lq.length cq_, .int .i64 t, .slice A3 ls.length cs, .slice G mm.length gc])), (6, some (.row bb2 39 #[.int .i64 i1, .int .i64 i2, .int .i64 i3, .int .i64 i4, .int .i64 i5])), (7, some (.row bb3 27 #[.slice none 0 0, .slice none 0 0, .int .i64 0, .slice none 0 0, .slice none 0 0])), (8, some (.ro G (flatR mm))), (9, some (.row bb4 69 #[.int .i64 (rc lq q 0), .int .i64 (rc lq q 1), .int .i64 (rc lq q 2), .int .i64 (rc lq q 3), .int .i64 (rc lq q 4)])), (10, (cond (S.getD 20 false) (some (.row bb5 80 #[.int .i64 (mkL (rc lq q 1) (rc lq q 2) (rc lq q 3) (rc lq q 4) (rc mm q 0) (rc mm q 1) (rc mm q 2) (t + 1000) i4), .int .i64 (mkC (rc lq q 1) (rc lq q 2) (rc lq q 3) (rc lq q 4) (rc mm q 0) (rc mm q 1) (rc mm q 2) (t + 1000) i4), .int .i64 (mkP (rc lq q 1) (rc lq q 2) (rc lq q 3) (rc lq q 4) (rc mm q 0) (rc mm q 1) (rc mm q 2) (t + 1000) i4)])) (cond (S.getD 18 false) (some (.row bb5 80 #[.int .i64 0, .int .i64 0, .int .i64 0])) none)))] w) ?_ ?_ ?_
     ·exact ⟨0, (((((((((((((((((((((((((((((Fr.nil hF).co hF (i := 59) (by kernel_rfl)).co hF (i := 58) (by kernel_rfl)).co hF (i := 57) (by kernel_rfl)).co hF (i := 56) (by kernel_rfl)).co hF (i := 55) (by kernel_rfl)).co hF (i := 54) (by kernel_rfl)).co hF (i := 53) (by kernel_rfl)).co hF (i := 52) (by kernel_rfl)).co hF (i := 51) (by kernel_rfl)).co hF (i := 50) (by kernel_rfl)).co hF (i := 49) (by kernel_rfl)).co hF (i := 48) (by kernel_rfl)).co hF (i := 47) (by kernel_rfl)).co hF (i := 46) (by kernel_rfl)).co hF (i := 45) (by kernel_rfl)).co hF (i := 44) (by kernel_rfl)).co hF (i := 43) (by kernel_rfl)).co hF (i := 42) (by kernel_rfl)).co hF (i := 14) (by kernel_rfl)).co hF (i := 13) (by kernel_rfl)).co hF (i := 12) (by kernel_rfl)).co hF (i := 11) (by kernel_rfl)).co hF (i := 10) (by kernel_rfl)).co hF (i := 8) (by kernel_rfl)).co hF (i := 6) (by kernel_rfl)).co hF (i := 4) (by kernel_rfl)).co hF (i := 3) (by kernel_rfl)).co hF (i := 1) (by kernel_rfl)), hM.drew.sub ((((((((((Sub.nil.co (k := 10) (by kernel_rfl)).co (k := 9) (by kernel_rfl)).co (k := 8) (by kernel_rfl)).co (k := 7) (by kernel_rfl)).co (k := 6) (by kernel_rfl)).co (k := 5) (by kernel_rfl)).co (k := 4) (by kernel_rfl)).co (k := 3) (by kernel_rfl)).co (k := 2) (by kernel_rfl)).co (k := 1) (by kernel_rfl))⟩
     ·refine stC ?_ (stC ?_ (stC ?_ (stC ?_ (stC ?_ (stC ?_ (stC ?_ (stC ?_ (stC ?_ (stC ?_ (stC ?_ (stC ?_ (stC ?_ (stC ?_ (stC ?_ (stC ?_ (stC ?_ (stC ?_ (stC ?_ (stC ?_ (stC ?_ (stC ?_ (trivial))))))))))))))))))))))
      ·intro s0 s1 s2 s3 s4 s5 s6 s7 s8 s9 s10 s11 s12 s13 s14 s15 s16 s17 s18 s19 s20 s21 hc hi hp a w hS
       obtain rfl : s0 = false := hi
       obtain ⟨bb5, hF, hM⟩ := hS
       refine eP 43 (v0 := .pointer (some ⟨bb4, 1, none⟩)) (v := .pointer (some ⟨bb4, 1, none⟩)) hF (by kernel_rfl) (fun _ => by kernel_rfl) rfl fun a hF => ?_
       exact ⟨bb5, ((hF.repl 11 (by kernel_rfl)).cast (by kernel_rfl)), (hM.cast (by kernel_rfl))⟩
      ·intro s0 s1 s2 s3 s4 s5 s6 s7 s8 s9 s10 s11 s12 s13 s14 s15 s16 s17 s18 s19 s20 s21 hc hi hp a w hS
       obtain rfl : s1 = false := hi
       obtain rfl : s0 = true := hp 0 (by kernel_rfl)
       obtain ⟨bb5, hF, hM⟩ := hS
       refine eL 44 9 1 (v := .agg #[.int .i64 (rc lq q 1), .int .i64 (rc lq q 2)]) hF hM (by kernel_rfl) rfl rfl (by kernel_rfl) (by kernel_rfl) fun a w hF hM => ?_
       exact ⟨bb5, ((hF.repl 12 (by kernel_rfl)).cast (by kernel_rfl)), (hM.cast (by kernel_rfl))⟩
      ·intro s0 s1 s2 s3 s4 s5 s6 s7 s8 s9 s10 s11 s12 s13 s14 s15 s16 s17 s18 s19 s20 s21 hc hi hp a w hS
       obtain rfl : s2 = false := hi
       obtain ⟨bb5, hF, hM⟩ := hS
       refine eP 45 (v0 := .pointer (some ⟨bb4, 3, none⟩)) (v := .pointer (some ⟨bb4, 3, none⟩)) hF (by kernel_rfl) (fun _ => by kernel_rfl) rfl fun a hF => ?_
       exact ⟨bb5, ((hF.repl 13 (by kernel_rfl)).cast (by kernel_rfl)), (hM.cast (by kernel_rfl))⟩
      ·intro s0 s1 s2 s3 s4 s5 s6 s7 s8 s9 s10 s11 s12 s13 s14 s15 s16 s17 s18 s19 s20 s21 hc hi hp a w hS
       obtain rfl : s3 = false := hi
       obtain rfl : s2 = true := hp 2 (by kernel_rfl)
       obtain ⟨bb5, hF, hM⟩ := hS
       refine eL 46 9 3 (v := .agg #[.int .i64 (rc lq q 3), .int .i64 (rc lq q 4)]) hF hM (by kernel_rfl) rfl rfl (by kernel_rfl) (by kernel_rfl) fun a w hF hM => ?_
       exact ⟨bb5, ((hF.repl 14 (by kernel_rfl)).cast (by kernel_rfl)), (hM.cast (by kernel_rfl))⟩
      ·intro s0 s1 s2 s3 s4 s5 s6 s7 s8 s9 s10 s11 s12 s13 s14 s15 s16 s17 s18 s19 s20 s21 hc hi hp a w hS
       obtain rfl : s4 = false := hi
       obtain ⟨bb5, hF, hM⟩ := hS
       refine eP 47 (v0 := .pointer (some ⟨bb1, 4, none⟩)) (v := .pointer (some ⟨bb1, 4, none⟩)) hF (by kernel_rfl) (fun _ => by kernel_rfl) rfl fun a hF => ?_
       exact ⟨bb5, ((hF.repl 15 (by kernel_rfl)).cast (by kernel_rfl)), (hM.cast (by kernel_rfl))⟩
      ·intro s0 s1 s2 s3 s4 s5 s6 s7 s8 s9 s10 s11 s12 s13 s14 s15 s16 s17 s18 s19 s20 s21 hc hi hp a w hS
       obtain rfl : s5 = false := hi
       obtain rfl : s4 = true := hp 4 (by kernel_rfl)
       obtain ⟨bb5, hF, hM⟩ := hS
       refine eL 48 5 4 (v := .slice G mm.length gc) hF hM (by kernel_rfl) rfl rfl (by kernel_rfl) (by kernel_rfl) fun a w hF hM => ?_
       exact ⟨bb5, ((hF.repl 16 (by kernel_rfl)).cast (by kernel_rfl)), (hM.cast (by kernel_rfl))⟩
      ·intro s0 s1 s2 s3 s4 s5 s6 s7 s8 s9 s10 s11 s12 s13 s14 s15 s16 s17 s18 s19 s20 s21 hc hi hp a w hS
       obtain rfl : s6 = false := hi
       obtain ⟨bb5, hF, hM⟩ := hS
       refine eP 49 (v0 := .int .i64 (q : Int)) (v := .int .i64 (q : Int)) hF (by kernel_rfl) (fun _ => by kernel_rfl) rfl fun a hF => ?_
       exact ⟨bb5, ((hF.repl 17 (by kernel_rfl)).cast (by kernel_rfl)), (hM.cast (by kernel_rfl))⟩
      ·intro s0 s1 s2 s3 s4 s5 s6 s7 s8 s9 s10 s11 s12 s13 s14 s15 s16 s17 s18 s19 s20 s21 hc hi hp a w hS
       obtain rfl : s7 = false := hi
       obtain rfl : s6 = true := hp 6 (by kernel_rfl)
       obtain rfl : s5 = true := hp 5 (by kernel_rfl)
       obtain ⟨bb5, hF, hM⟩ := hS
       refine eM 50 (v := .pointer (some (ea G (q * 3)))) hF hM (by kernel_rfl) (yld_ix (kd := .i64) (e := 80) (len := mm.length) (cap := gc) (i := (q : Int)) (size := 3) (A := G) hF rfl (by kernel_rfl) (by kernel_rfl) (by kernel_rfl) (by kernel_rfl) (by kernel_rfl) (roK 8 rfl) (by omega) (by omega) (by rw [flatR_length (show WR 3 mm from by assumption)]; (try simp only [List.length_map, List.length_append, List.length_replicate, List.length_set, List.length_cons, List.length_nil, flat2_length, List.length_take]); omega)) fun a w hF hM => ?_
       exact ⟨bb5, ((hF.repl 18 (by kernel_rfl)).cast (by kernel_rfl)), (hM.cast (by kernel_rfl))⟩
      ·intro s0 s1 s2 s3 s4 s5 s6 s7 s8 s9 s10 s11 s12 s13 s14 s15 s16 s17 s18 s19 s20 s21 hc hi hp a w hS
       obtain rfl : s8 = false := hi
       obtain rfl : s7 = true := hp 7 (by kernel_rfl)
       obtain ⟨bb5, hF, hM⟩ := hS
       refine eM 51 (v := .agg #[.int .i64 (rc mm q 0), .int .i64 (rc mm q 1), .int .i64 (rc mm q 2)]) hF hM (by kernel_rfl) (yld_roM (A := G) (j := q * 3) (us := [.int .i64 (rc mm q 0), .int .i64 (rc mm q 1), .int .i64 (rc mm q 2)]) hF rfl (by kernel_rfl) (by kernel_rfl) (roK 8 rfl) (by kernel_rfl) rfl (rc_sub (k := q) (f := 0) (m := 3) (show WR 3 mm from by assumption) (by omega) (by decide) rfl)) fun a w hF hM => ?_
       exact ⟨bb5, ((hF.repl 19 (by kernel_rfl)).cast (by kernel_rfl)), (hM.cast (by kernel_rfl))⟩
      ·intro s0 s1 s2 s3 s4 s5 s6 s7 s8 s9 s10 s11 s12 s13 s14 s15 s16 s17 s18 s19 s20 s21 hc hi hp a w hS
       obtain rfl : s9 = false := hi
       obtain ⟨bb5, hF, hM⟩ := hS
       refine eP 52 (v0 := .int .i64 t) (v := .int .i64 t) hF (by kernel_rfl) (fun _ => by kernel_rfl) rfl fun a hF => ?_
       exact ⟨bb5, ((hF.repl 20 (by kernel_rfl)).cast (by kernel_rfl)), (hM.cast (by kernel_rfl))⟩
      ·intro s0 s1 s2 s3 s4 s5 s6 s7 s8 s9 s10 s11 s12 s13 s14 s15 s16 s17 s18 s19 s20 s21 hc hi hp a w hS
       obtain rfl : s10 = false := hi
       obtain rfl : s9 = true := hp 9 (by kernel_rfl)
       obtain ⟨bb5, hF, hM⟩ := hS
       refine eP 53 (v0 := .int .i64 (IntKind.i64.wrap (t + 1000))) (v := .int .i64 (t + 1000)) hF (by kernel_rfl) (fun _ => by kernel_rfl) (wi (by omega)) fun a hF => ?_
       exact ⟨bb5, ((hF.repl 21 (by kernel_rfl)).cast (by kernel_rfl)), (hM.cast (by kernel_rfl))⟩
      ·intro s0 s1 s2 s3 s4 s5 s6 s7 s8 s9 s10 s11 s12 s13 s14 s15 s16 s17 s18 s19 s20 s21 hc hi hp a w hS
       obtain rfl : s11 = false := hi
       obtain ⟨bb5, hF, hM⟩ := hS
       refine eP 54 (v0 := .pointer (some ⟨bb2, 3, none⟩)) (v := .pointer (some ⟨bb2, 3, none⟩)) hF (by kernel_rfl) (fun _ => by kernel_rfl) rfl fun a hF => ?_
       exact ⟨bb5, ((hF.repl 22 (by kernel_rfl)).cast (by kernel_rfl)), (hM.cast (by kernel_rfl))⟩
      ·intro s0 s1 s2 s3 s4 s5 s6 s7 s8 s9 s10 s11 s12 s13 s14 s15 s16 s17 s18 s19 s20 s21 hc hi hp a w hS
       obtain rfl : s12 = false := hi
       obtain rfl : s11 = true := hp 11 (by kernel_rfl)
       obtain ⟨bb5, hF, hM⟩ := hS
       refine eL 55 6 3 (v := .int .i64 i4) hF hM (by kernel_rfl) rfl rfl (by kernel_rfl) (by kernel_rfl) fun a w hF hM => ?_
       exact ⟨bb5, ((hF.repl 23 (by kernel_rfl)).cast (by kernel_rfl)), (hM.cast (by kernel_rfl))⟩
      ·intro s0 s1 s2 s3 s4 s5 s6 s7 s8 s9 s10 s11 s12 s13 s14 s15 s16 s17 s18 s19 s20 s21 hc hi hp a w hS
       obtain rfl : s13 = false := hi
       obtain rfl : s12 = true := hp 12 (by kernel_rfl)
       obtain rfl : s10 = true := hp 10 (by kernel_rfl)
       obtain rfl : s8 = true := hp 8 (by kernel_rfl)
       obtain rfl : s3 = true := hp 3 (by kernel_rfl)
       obtain rfl : s1 = true := hp 1 (by kernel_rfl)
       obtain ⟨bb5, hF, hM⟩ := hS
       refine eM 56 (v := .tuple #[.int .i64 (mkCol (rc lq q 1) (rc lq q 2) (rc lq q 3) (rc lq q 4) (rc mm q 0) (rc mm q 1) (rc mm q 2) (t + 1000) i4), .agg #[.int .i64 (mkL (rc lq q 1) (rc lq q 2) (rc lq q 3) (rc lq q 4) (rc mm q 0) (rc mm q 1) (rc mm q 2) (t + 1000) i4), .int .i64 (mkC (rc lq q 1) (rc lq q 2) (rc lq q 3) (rc lq q 4) (rc mm q 0) (rc mm q 1) (rc mm q 2) (t + 1000) i4), .int .i64 (mkP (rc lq q 1) (rc lq q 2) (rc lq q 3) (rc lq q 4) (rc mm q 0) (rc mm q 1) (rc mm q 2) (t + 1000) i4)], .int .i64 (mkE (rc lq q 1) (rc lq q 2) (rc lq q 3) (rc lq q 4) (rc mm q 0) (rc mm q 1) (rc mm q 2) (t + 1000) i4)]) hF hM (by kernel_rfl) (yld_call (f := 39) (args := #[.agg #[.int .i64 (rc lq q 1), .int .i64 (rc lq q 2)], .agg #[.int .i64 (rc lq q 3), .int .i64 (rc lq q 4)], .agg #[.int .i64 (rc mm q 0), .int .i64 (rc mm q 1), .int .i64 (rc mm q 2)], .int .i64 (t + 1000), .int .i64 i4]) hF (by kernel_rfl) (fun _ => by kernel_rfl) (fun w hM => refMark_w (rc lq q 1) (rc lq q 2) (rc lq q 3) (rc lq q 4) (rc mm q 0) (rc mm q 1) (rc mm q 2) (t + 1000) i4 w)) fun a w hF hM => ?_
       exact ⟨bb5, ((hF.repl 24 (by kernel_rfl)).cast (by kernel_rfl)), (hM.cast (by kernel_rfl))⟩
      ·intro s0 s1 s2 s3 s4 s5 s6 s7 s8 s9 s10 s11 s12 s13 s14 s15 s16 s17 s18 s19 s20 s21 hc hi hp a w hS
       obtain rfl : s14 = false := hi
       obtain rfl : s13 = true := hp 13 (by kernel_rfl)
       obtain ⟨bb5, hF, hM⟩ := hS
       refine eP 42 (v0 := .tuple #[.int .i64 (mkCol (rc lq q 1) (rc lq q 2) (rc lq q 3) (rc lq q 4) (rc mm q 0) (rc mm q 1) (rc mm q 2) (t + 1000) i4), .agg #[.int .i64 (mkL (rc lq q 1) (rc lq q 2) (rc lq q 3) (rc lq q 4) (rc mm q 0) (rc mm q 1) (rc mm q 2) (t + 1000) i4), .int .i64 (mkC (rc lq q 1) (rc lq q 2) (rc lq q 3) (rc lq q 4) (rc mm q 0) (rc mm q 1) (rc mm q 2) (t + 1000) i4), .int .i64 (mkP (rc lq q 1) (rc lq q 2) (rc lq q 3) (rc lq q 4) (rc mm q 0) (rc mm q 1) (rc mm q 2) (t + 1000) i4)], .int .i64 (mkE (rc lq q 1) (rc lq q 2) (rc lq q 3) (rc lq q 4) (rc mm q 0) (rc mm q 1) (rc mm q 2) (t + 1000) i4)]) (v := .tuple #[.int .i64 (mkCol (rc lq q 1) (rc lq q 2) (rc lq q 3) (rc lq q 4) (rc mm q 0) (rc mm q 1) (rc mm q 2) (t + 1000) i4), .agg #[.int .i64 (mkL (rc lq q 1) (rc lq q 2) (rc lq q 3) (rc lq q 4) (rc mm q 0) (rc mm q 1) (rc mm q 2) (t + 1000) i4), .int .i64 (mkC (rc lq q 1) (rc lq q 2) (rc lq q 3) (rc lq q 4) (rc mm q 0) (rc mm q 1) (rc mm q 2) (t + 1000) i4), .int .i64 (mkP (rc lq q 1) (rc lq q 2) (rc lq q 3) (rc lq q 4) (rc mm q 0) (rc mm q 1) (rc mm q 2) (t + 1000) i4)], .int .i64 (mkE (rc lq q 1) (rc lq q 2) (rc lq q 3) (rc lq q 4) (rc mm q 0) (rc mm q 1) (rc mm q 2) (t + 1000) i4)]) hF (by kernel_rfl) (fun _ => by kernel_rfl) rfl fun a hF => ?_
       exact ⟨bb5, ((hF.repl 10 (by kernel_rfl)).cast (by kernel_rfl)), (hM.cast (by kernel_rfl))⟩
      ·intro s0 s1 s2 s3 s4 s5 s6 s7 s8 s9 s10 s11 s12 s13 s14 s15 s16 s17 s18 s19 s20 s21 hc hi hp a w hS
       obtain rfl : s15 = false := hi
       obtain rfl : s14 = true := hp 14 (by kernel_rfl)
       obtain ⟨bb5, hF, hM⟩ := hS
       refine eP 57 (v0 := .int .i64 (mkCol (rc lq q 1) (rc lq q 2) (rc lq q 3) (rc lq q 4) (rc mm q 0) (rc mm q 1) (rc mm q 2) (t + 1000) i4)) (v := .int .i64 (mkCol (rc lq q 1) (rc lq q 2) (rc lq q 3) (rc lq q 4) (rc mm q 0) (rc mm q 1) (rc mm q 2) (t + 1000) i4)) hF (by kernel_rfl) (fun _ => by kernel_rfl) rfl fun a hF => ?_
       exact ⟨bb5, ((hF.repl 25 (by kernel_rfl)).cast (by kernel_rfl)), (hM.cast (by kernel_rfl))⟩
      ·intro s0 s1 s2 s3 s4 s5 s6 s7 s8 s9 s10 s11 s12 s13 s14 s15 s16 s17 s18 s19 s20 s21 hc hi hp a w hS
       obtain rfl : s16 = false := hi
       obtain rfl : s14 = true := hp 14 (by kernel_rfl)
       obtain ⟨bb5, hF, hM⟩ := hS
       refine eP 58 (v0 := .agg #[.int .i64 (mkL (rc lq q 1) (rc lq q 2) (rc lq q 3) (rc lq q 4) (rc mm q 0) (rc mm q 1) (rc mm q 2) (t + 1000) i4), .int .i64 (mkC (rc lq q 1) (rc lq q 2) (rc lq q 3) (rc lq q 4) (rc mm q 0) (rc mm q 1) (rc mm q 2) (t + 1000) i4), .int .i64 (mkP (rc lq q 1) (rc lq q 2) (rc lq q 3) (rc lq q 4) (rc mm q 0) (rc mm q 1) (rc mm q 2) (t + 1000) i4)]) (v := .agg #[.int .i64 (mkL (rc lq q 1) (rc lq q 2) (rc lq q 3) (rc lq q 4) (rc mm q 0) (rc mm q 1) (rc mm q 2) (t + 1000) i4), .int .i64 (mkC (rc lq q 1) (rc lq q 2) (rc lq q 3) (rc lq q 4) (rc mm q 0) (rc mm q 1) (rc mm q 2) (t + 1000) i4), .int .i64 (mkP (rc lq q 1) (rc lq q 2) (rc lq q 3) (rc lq q 4) (rc mm q 0) (rc mm q 1) (rc mm q 2) (t + 1000) i4)]) hF (by kernel_rfl) (fun _ => by kernel_rfl) rfl fun a hF => ?_
       exact ⟨bb5, ((hF.repl 26 (by kernel_rfl)).cast (by kernel_rfl)), (hM.cast (by kernel_rfl))⟩
      ·intro s0 s1 s2 s3 s4 s5 s6 s7 s8 s9 s10 s11 s12 s13 s14 s15 s16 s17 s18 s19 s20 s21 hc hi hp a w hS
       obtain rfl : s17 = false := hi
       obtain rfl : s14 = true := hp 14 (by kernel_rfl)
       obtain ⟨bb5, hF, hM⟩ := hS
       refine eP 59 (v0 := .int .i64 (mkE (rc lq q 1) (rc lq q 2) (rc lq q 3) (rc lq q 4) (rc mm q 0) (rc mm q 1) (rc mm q 2) (t + 1000) i4)) (v := .int .i64 (mkE (rc lq q 1) (rc lq q 2) (rc lq q 3) (rc lq q 4) (rc mm q 0) (rc mm q 1) (rc mm q 2) (t + 1000) i4)) hF (by kernel_rfl) (fun _ => by kernel_rfl) rfl fun a hF => ?_
       exact ⟨bb5, ((hF.repl 27 (by kernel_rfl)).cast (by kernel_rfl)), (hM.cast (by kernel_rfl))⟩
      ·intro s0 s1 s2 s3 s4 s5 s6 s7 s8 s9 s10 s11 s12 s13 s14 s15 s16 s17 s18 s19 s20 s21 hc hi hp a w hS
       obtain rfl : s18 = false := hi
       obtain rfl : s20 = false := hc.f 20 18 (by kernel_rfl) rfl
       obtain ⟨bb5, hF, hM⟩ := hS
       refine eN 13 10 (t := 80) (fun b => .pointer (some ⟨b, 0, none⟩)) #[.int .i64 0, .int .i64 0, .int .i64 0] hF hM (by kernel_rfl) (fun _ => by kernel_rfl) fun bb5 a w hF hM => ?_
       exact ⟨bb5, ((hF.repl 8 (by kernel_rfl)).cast (by kernel_rfl)), ((hM.repl 9 (by kernel_rfl)).cast (by kernel_rfl))⟩
      ·intro s0 s1 s2 s3 s4 s5 s6 s7 s8 s9 s10 s11 s12 s13 s14 s15 s16 s17 s18 s19 s20 s21 hc hi hp a w hS
       obtain rfl : s19 = false := hi
       obtain rfl : s15 = true := hp 15 (by kernel_rfl)
       obtain ⟨bb5, hF, hM⟩ := hS
       refine eP 12 (v0 := .int .i64 (mkCol (rc lq q 1) (rc lq q 2) (rc lq q 3) (rc lq q 4) (rc mm q 0) (rc mm q 1) (rc mm q 2) (t + 1000) i4)) (v := .int .i64 (mkCol (rc lq q 1) (rc lq q 2) (rc lq q 3) (rc lq q 4) (rc mm q 0) (rc mm q 1) (rc mm q 2) (t + 1000) i4)) hF (by kernel_rfl) (fun _ => by kernel_rfl) rfl fun a hF => ?_
       exact ⟨bb5, ((hF.repl 7 (by kernel_rfl)).cast (by kernel_rfl)), (hM.cast (by kernel_rfl))⟩
      ·intro s0 s1 s2 s3 s4 s5 s6 s7 s8 s9 s10 s11 s12 s13 s14 s15 s16 s17 s18 s19 s20 s21 hc hi hp a w hS
       obtain rfl : s20 = false := hi
       obtain rfl : s18 = true := hp 18 (by kernel_rfl)
       obtain rfl : s16 = true := hp 16 (by kernel_rfl)
       obtain ⟨bb5, hF, hM⟩ := hS
       refine sStore (i := 10) (off := 0) (cs' := #[.int .i64 (mkL (rc lq q 1) (rc lq q 2) (rc lq q 3) (rc lq q 4) (rc mm q 0) (rc mm q 1) (rc mm q 2) (t + 1000) i4), .int .i64 (mkC (rc lq q 1) (rc lq q 2) (rc lq q 3) (rc lq q 4) (rc mm q 0) (rc mm q 1) (rc mm q 2) (t + 1000) i4), .int .i64 (mkP (rc lq q 1) (rc lq q 2) (rc lq q 3) (rc lq q 4) (rc mm q 0) (rc mm q 1) (rc mm q 2) (t + 1000) i4)]) hF hM (by kernel_rfl) rfl rfl (by kernel_rfl) (by kernel_rfl) rfl (by kernel_rfl) fun w hM => ?_
       exact ⟨bb5, (hF.cast (by kernel_rfl)), ((hM.repl 9 (by kernel_rfl)).cast (by kernel_rfl))⟩
      ·intro s0 s1 s2 s3 s4 s5 s6 s7 s8 s9 s10 s11 s12 s13 s14 s15 s16 s17 s18 s19 s20 s21 hc hi hp a w hS
       obtain rfl : s21 = false := hi
       obtain rfl : s17 = true := hp 17 (by kernel_rfl)
       obtain ⟨bb5, hF, hM⟩ := hS
       refine eP 14 (v0 := .int .i64 (mkE (rc lq q 1) (rc lq q 2) (rc lq q 3) (rc lq q 4) (rc mm q 0) (rc mm q 1) (rc mm q 2) (t + 1000) i4)) (v := .int .i64 (mkE (rc lq q 1) (rc lq q 2) (rc lq q 3) (rc lq q 4) (rc mm q 0) (rc mm q 1) (rc mm q 2) (t + 1000) i4)) hF (by kernel_rfl) (fun _ => by kernel_rfl) rfl fun a hF => ?_
       exact ⟨bb5, ((hF.repl 9 (by kernel_rfl)).cast (by kernel_rfl)), (hM.cast (by kernel_rfl))⟩
     ·intro a w hS
      obtain ⟨bb5, hF, hM⟩ := hS
      replace hF : Fr 122 [(1, some (.int .i64 port)), (3, some (.int .i64 t)), (4, some (.pointer (some ⟨bb1, 0, none⟩))), (6, some (.pointer (some ⟨bb2, 0, none⟩))), (8, some (.pointer (some ⟨bb3, 0, none⟩))), (10, some (.int .i64 (q : Int))), (11, some (.pointer (some ⟨bb4, 0, none⟩))), (12, some (.int .i64 (mkCol (rc lq q 1) (rc lq q 2) (rc lq q 3) (rc lq q 4) (rc mm q 0) (rc mm q 1) (rc mm q 2) (t + 1000) i4))), (13, some (.pointer (some ⟨bb5, 0, none⟩))), (14, some (.int .i64 (mkE (rc lq q 1) (rc lq q 2) (rc lq q 3) (rc lq q 4) (rc mm q 0) (rc mm q 1) (rc mm q 2) (t + 1000) i4))), (42, some (.tuple #[.int .i64 (mkCol (rc lq q 1) (rc lq q 2) (rc lq q 3) (rc lq q 4) (rc mm q 0) (rc mm q 1) (rc mm q 2) (t + 1000) i4), .agg #[.int .i64 (mkL (rc lq q 1) (rc lq q 2) (rc lq q 3) (rc lq q 4) (rc mm q 0) (rc mm q 1) (rc mm q 2) (t + 1000) i4), .int .i64 (mkC (rc lq q 1) (rc lq q 2) (rc lq q 3) (rc lq q 4) (rc mm q 0) (rc mm q 1) (rc mm q 2) (t + 1000) i4), .int .i64 (mkP (rc lq q 1) (rc lq q 2) (rc lq q 3) (rc lq q 4) (rc mm q 0) (rc mm q 1) (rc mm q 2) (t + 1000) i4)], .int .i64 (mkE (rc lq q 1) (rc lq q 2) (rc lq q 3) (rc lq q 4) (rc mm q 0) (rc mm q 1) (rc mm q 2) (t + 1000) i4)])), (43, some (.pointer (some ⟨bb4, 1, none⟩))), (44, some (.agg #[.int .i64 (rc lq q 1), .int .i64 (rc lq q 2)])), (45, some (.pointer (some ⟨bb4, 3, none⟩))), (46, some (.agg #[.int .i64 (rc lq q 3), .int .i64 (rc lq q 4)])), (47, some (.pointer (some ⟨bb1, 4, none⟩))), (48, some (.slice G mm.length gc)), (49, some (.int .i64 (q : Int))), (50, some (.pointer (some (ea G (q * 3))))), (51, some (.agg #[.int .i64 (rc mm q 0), .int .i64 (rc mm q 1), .int .i64 (rc mm q 2)])), (52, some (.int .i64 t)), (53, some (.int .i64 (t + 1000))), (54, some (.pointer (some ⟨bb2, 3, none⟩))), (55, some (.int .i64 i4)), (56, some (.tuple #[.int .i64 (mkCol (rc lq q 1) (rc lq q 2) (rc lq q 3) (rc lq q 4) (rc mm q 0) (rc mm q 1) (rc mm q 2) (t + 1000) i4), .agg #[.int .i64 (mkL (rc lq q 1) (rc lq q 2) (rc lq q 3) (rc lq q 4) (rc mm q 0) (rc mm q 1) (rc mm q 2) (t + 1000) i4), .int .i64 (mkC (rc lq q 1) (rc lq q 2) (rc lq q 3) (rc lq q 4) (rc mm q 0) (rc mm q 1) (rc mm q 2) (t + 1000) i4), .int .i64 (mkP (rc lq q 1) (rc lq q 2) (rc lq q 3) (rc lq q 4) (rc mm q 0) (rc mm q 1) (rc mm q 2) (t + 1000) i4)], .int .i64 (mkE (rc lq q 1) (rc lq q 2) (rc lq q 3) (rc lq q 4) (rc mm q 0) (rc mm q 1) (rc mm q 2) (t + 1000) i4)])), (57, some (.int .i64 (mkCol (rc lq q 1) (rc lq q 2) (rc lq q 3) (rc lq q 4) (rc mm q 0) (rc mm q 1) (rc mm q 2) (t + 1000) i4))), (58, some (.agg #[.int .i64 (mkL (rc lq q 1) (rc lq q 2) (rc lq q 3) (rc lq q 4) (rc mm q 0) (rc mm q 1) (rc mm q 2) (t + 1000) i4), .int .i64 (mkC (rc lq q 1) (rc lq q 2) (rc lq q 3) (rc lq q 4) (rc mm q 0) (rc mm q 1) (rc mm q 2) (t + 1000) i4), .int .i64 (mkP (rc lq q 1) (rc lq q 2) (rc lq q 3) (rc lq q 4) (rc mm q 0) (rc mm q 1) (rc mm q 2) (t + 1000) i4)])), (59, some (.int .i64 (mkE (rc lq q 1) (rc lq q 2) (rc lq q 3) (rc lq q 4) (rc mm q 0) (rc mm q 1) (rc mm q 2) (t + 1000) i4)))] a := hF.cast (by kernel_rfl)
      replace hM : Mem w0.heap.size w0 [(1, some (.ro A (flatR la))), (2, some (.ro A2 (flatR lq))), (3, some (.ro A3 (ls.map (Value.int .i64)))), (4, some (.ro A4 (flatR lm))), (5, some (.row bb1 27 #[.slice A la.length ca, .slice A2 lq.length cq_, .int .i64 t, .slice A3 ls.length cs, .slice G mm.length gc])), (6, some (.row bb2 39 #[.int .i64 i1, .int .i64 i2, .int .i64 i3, .int .i64 i4, .int .i64 i5])), (7, some (.row bb3 27 #[.slice none 0 0, .slice none 0 0, .int .i64 0, .slice none 0 0, .slice none 0 0])), (8, some (.ro G (flatR mm))), (9, some (.row bb4 69 #[.int .i64 (rc lq q 0), .int .i64 (rc lq q 1), .int .i64 (rc lq q 2), .int .i64 (rc lq q 3), .int .i64 (rc lq q 4)])), (10, some (.row bb5 80 #[.int .i64 (mkL (rc lq q 1) (rc lq q 2) (rc lq q 3) (rc lq q 4) (rc mm q 0) (rc mm q 1) (rc mm q 2) (t + 1000) i4), .int .i64 (mkC (rc lq q 1) (rc lq q 2) (rc lq q 3) (rc lq q 4) (rc mm q 0) (rc mm q 1) (rc mm q 2) (t + 1000) i4), .int .i64 (mkP (rc lq q 1) (rc lq q 2) (rc lq q 3) (rc lq q 4) (rc mm q 0) (rc mm q 1) (rc mm q 2) (t + 1000) i4)]))] w := hM.cast (by kernel_rfl)
      refine hK14 _ _ ?_
      refine wp_seq_k fun K15 hK15 => ?_
      refine wp_region_lit ?_
      refine sB 1 [(15, .slice none 0 0)] hF (by kernel_rfl) fun a hF => ?_
      refine wpList_nil ?_
      refine hK15 _ _ ?_
      refine wp_seq_k fun K16 hK16 => ?_
      refine wp_region_lit ?_
      refine sB 2 [(60, .slice none 0 0), (61, .pointer (some ⟨bb1, 4, none⟩))] hF (by kernel_rfl) fun a hF => ?_
      refine wl (eL 62 5 4 (v := .slice G mm.length gc) hF hM (by kernel_rfl) rfl rfl (by kernel_rfl) (by kernel_rfl) fun a w hF hM => ?_)
      replace hM := hM.addNil 11 80 3
      refine wl (sAppA 63 11 (e := 80) (size := 3) (bytes := 24) (z := .agg #[.int .i64 0, .int .i64 0, .int .i64 0]) (m := mm.length) (c := gc) (l := 0) (cap := 0) (A := none) (news := (flatR mm)) (flatR mm) hF hM (by kernel_rfl) rfl (by kernel_rfl) (by kernel_rfl) (by kernel_rfl) rfl rfl rfl (by rw [flatR_length (show WR 3 mm from by assumption)]) (roK 8 rfl) (flatR_one _) (by omega) (by decide) rfl (by assumption) fun AA6 cc6 a w hF hM => ?_)
      refine sB 1 [(15, .slice AA6 (0 + mm.length) cc6)] hF (by kernel_rfl) fun a hF => ?_
      refine wpList_nil ?_
      refine hK16 _ _ ?_
      refine wp_seq_k fun K17 hK17 => ?_
      rw [Nat.zero_add] at hM
      try rw [Nat.zero_add] at hF
      refine wp_region_lit ?_
      refine sB 2 [(64, .slice AA6 mm.length cc6), (65, .int .i64 (q : Int))] hF (by kernel_rfl) fun a hF => ?_
      refine wl (eL 66 10 0 (v := .agg #[.int .i64 (mkL (rc lq q 1) (rc lq q 2) (rc lq q 3) (rc lq q 4) (rc mm q 0) (rc mm q 1) (rc mm q 2) (t + 1000) i4), .int .i64 (mkC (rc lq q 1) (rc lq q 2) (rc lq q 3) (rc lq q 4) (rc mm q 0) (rc mm q 1) (rc mm q 2) (t + 1000) i4), .int .i64 (mkP (rc lq q 1) (rc lq q 2) (rc lq q 3) (rc lq q 4) (rc mm q 0) (rc mm q 1) (rc mm q 2) (t + 1000) i4)]) hF hM (by kernel_rfl) rfl rfl (by kernel_rfl) (by kernel_rfl) fun a w hF hM => ?_)
      refine wl (eM 67 (v := .pointer (some (ea AA6 (q * 3)))) hF hM (by kernel_rfl) (yld_ix (kd := .i64) (e := 80) (len := mm.length) (cap := cc6) (i := (q : Int)) (size := 3) (A := AA6) hF rfl (by kernel_rfl) (by kernel_rfl) (by kernel_rfl) (by kernel_rfl) (by kernel_rfl) (roO 11 rfl) (by omega) (by omega) (by rw [flatR_length (show WR 3 mm from by assumption)]; (try simp only [List.length_map, List.length_append, List.length_replicate, List.length_set, List.length_cons, List.length_nil, flat2_length, List.length_take]); omega)) fun a w hF hM => ?_)
      refine wl (sStoreOM 11 (j := q * 3) (A := AA6) [.int .i64 (mkL (rc lq q 1) (rc lq q 2) (rc lq q 3) (rc lq q 4) (rc mm q 0) (rc mm q 1) (rc mm q 2) (t + 1000) i4), .int .i64 (mkC (rc lq q 1) (rc lq q 2) (rc lq q 3) (rc lq q 4) (rc mm q 0) (rc mm q 1) (rc mm q 2) (t + 1000) i4), .int .i64 (mkP (rc lq q 1) (rc lq q 2) (rc lq q 3) (rc lq q 4) (rc mm q 0) (rc mm q 1) (rc mm q 2) (t + 1000) i4)] (flatR ((mm).set q [mkL (rc lq q 1) (rc lq q 2) (rc lq q 3) (rc lq q 4) (rc mm q 0) (rc mm q 1) (rc mm q 2) (t + 1000) i4, mkC (rc lq q 1) (rc lq q 2) (rc lq q 3) (rc lq q 4) (rc mm q 0) (rc mm q 1) (rc mm q 2) (t + 1000) i4, mkP (rc lq q 1) (rc lq q 2) (rc lq q 3) (rc lq q 4) (rc mm q 0) (rc mm q 1) (rc mm q 2) (t + 1000) i4])) hF hM (by kernel_rfl) rfl rfl (by kernel_rfl) (by kernel_rfl) rfl (by kernel_rfl) rfl (by intro u hu; simp only [List.mem_cons, List.not_mem_nil, or_false] at hu; rcases hu with rfl | rfl | rfl <;> rfl) (Nat.succ_pos _) (by rw [flatR_length (show WR 3 mm from by assumption)]; (try simp only [List.length_map, List.length_append, List.length_replicate, List.length_set, List.length_cons, List.length_nil, flat2_length, List.length_take]); omega) (flatR_set (k := q) (r := [mkL (rc lq q 1) (rc lq q 2) (rc lq q 3) (rc lq q 4) (rc mm q 0) (rc mm q 1) (rc mm q 2) (t + 1000) i4, mkC (rc lq q 1) (rc lq q 2) (rc lq q 3) (rc lq q 4) (rc mm q 0) (rc mm q 1) (rc mm q 2) (t + 1000) i4, mkP (rc lq q 1) (rc lq q 2) (rc lq q 3) (rc lq q 4) (rc mm q 0) (rc mm q 1) (rc mm q 2) (t + 1000) i4]) (show WR 3 mm from by assumption) (by (try simp only [List.length_map, List.length_append, List.length_replicate, List.length_set, List.length_cons, List.length_nil, flat2_length, List.length_take, fillT_len]); omega) rfl) fun w hM => ?_)
      refine wpList_nil ?_
      refine hK17 _ _ ?_
      refine wp_seq_k fun K18 hK18 => ?_
      refine wp_region_lit ?_
      refine sB 2 [(68, .slice AA6 mm.length cc6), (69, .pointer (some ⟨bb1, 4, none⟩))] hF (by kernel_rfl) fun a hF => ?_
      refine wl (sStore (i := 5) (off := 4) (cs' := #[.slice A la.length ca, .slice A2 lq.length cq_, .int .i64 t, .slice A3 ls.length cs, .slice AA6 mm.length cc6]) hF hM (by kernel_rfl) rfl rfl (by kernel_rfl) (by kernel_rfl) rfl (by kernel_rfl) fun w hM => ?_)
      refine wpList_nil ?_
      refine hK18 _ _ ?_
      refine wp_seq_k fun K19 hK19 => ?_
      refine wp_region_lit ?_
      refine sB 2 [(70, .int .i64 (mkCol (rc lq q 1) (rc lq q 2) (rc lq q 3) (rc lq q 4) (rc mm q 0) (rc mm q 1) (rc mm q 2) (t + 1000) i4)), (71, .bool (decide (mkCol (rc lq q 1) (rc lq q 2) (rc lq q 3) (rc lq q 4) (rc mm q 0) (rc mm q 1) (rc mm q 2) (t + 1000) i4 = 2)))] hF (by kernel_rfl) fun a hF => ?_
      refine wpList_nil ?_
      refine hK19 _ _ ?_
      by_cases hz15 : mkCol (rc lq q 1) (rc lq q 2) (rc lq q 3) (rc lq q 4) (rc mm q 0) (rc mm q 1) (rc mm q 2) (t + 1000) i4 = 2
      ·skip
       replace hF := hF.c hF (i := 71) (v := .bool true) rfl (bT hz15)
       refine cT hF (by kernel_rfl) (by kernel_rfl) ?_
       refine wp_seq_k fun K20 hK20 => ?_
       refine wp_region_lit ?_
       refine wl (eL 72 5 0 (v := .agg #[.slice A la.length ca, .slice A2 lq.length cq_, .int .i64 t, .slice A3 ls.length cs, .slice AA6 mm.length cc6]) hF hM (by kernel_rfl) rfl rfl (by kernel_rfl) (by kernel_rfl) fun a w hF hM => ?_)
       refine wl (sStore (i := 7) (off := 0) (cs' := #[.slice A la.length ca, .slice A2 lq.length cq_, .int .i64 t, .slice A3 ls.length cs, .slice AA6 mm.length cc6]) hF hM (by kernel_rfl) rfl rfl (by kernel_rfl) (by kernel_rfl) rfl (by kernel_rfl) fun w hM => ?_)
       refine sB 1 [(9, .int .i64 5)] hF (by kernel_rfl) fun a hF => ?_
       refine wpList_nil ?_
       refine hK20 _ _ ?_
       refine wp_ret ?_
       refine hR0 _ _ ?_
       refine ret_of hF hM (.cell (i := 7) rfl rfl (v := .agg #[.slice A la.length ca, .slice A2 lq.length cq_, .int .i64 t, .slice A3 ls.length cs, .slice AA6 mm.length cc6]) (by kernel_rfl) (.tmp rfl (.nil))) ?_
       have e2 := e.symm.trans (show psR la lq ls lm port i1 i3 i4 t = (ls, (mm).set q [mkL (rc lq q 1) (rc lq q 2) (rc lq q 3) (rc lq q 4) (rc mm q 0) (rc mm q 1) (rc mm q 2) (t + 1000) i4, mkC (rc lq q 1) (rc lq q 2) (rc lq q 3) (rc lq q 4) (rc mm q 0) (rc mm q 1) (rc mm q 2) (t + 1000) i4, mkP (rc lq q 1) (rc lq q 2) (rc lq q 3) (rc lq q 4) (rc mm q 0) (rc mm q 1) (rc mm q 2) (t + 1000) i4], 5) from by unfold psR psM; rw [if_pos (show i3 ≤ 5 by omega), hmm.2, if_neg (by omega), Int.toNat_natCast]; unfold pcol pnew; rw [← hmm.1, if_pos hz15])
       have eq1 := (Prod.mk.inj e2).1
       have eq2 := (Prod.mk.inj (Prod.mk.inj e2).2).1
       have eq3 := (Prod.mk.inj (Prod.mk.inj e2).2).2
       clear e2 e
       have hml : mm.length = lm.length := by omega
       subst eq1 eq2 eq3
       subst e3 e4
       exact ⟨A3, cs, AA6, cc6, by first | rfl | (rw [hml]; rfl), hM.roSame (k := 3) rfl, hM.ownNew (k := 11) rfl, hM.bel⟩
      ·skip
       replace hF := hF.c hF (i := 71) (v := .bool false) rfl (bF hz15)
       refine cF hF (by kernel_rfl) (by kernel_rfl) ?_
       refine wp_skip ?_
       refine hK10 _ _ ?_
       refine wp_region_lit ?_
       refine sB 1 [(31, .int .i64 (q : Int))] hF (by kernel_rfl) fun a hF => ?_
       refine wl (eP 32 (v0 := .int .i64 (IntKind.i64.wrap ((q : Int) + 1))) (v := .int .i64 ((q : Int) + 1)) hF (by kernel_rfl) (fun _ => by kernel_rfl) (wi (by omega)) fun a hF => ?_)
       refine sB 1 [(10, .int .i64 ((q : Int) + 1))] hF (by kernel_rfl) fun a hF => ?_
       refine wpList_nil ?_
       have hnl := own_nil hM (k := 11) rfl
       have hgk := hM.gok (A4 := A4) (k := 11) rfl
       replace hM := hM.toRo (k := 11) rfl
       have hlen : mm.length = ((mm).set q [mkL (rc lq q 1) (rc lq q 2) (rc lq q 3) (rc lq q 4) (rc mm q 0) (rc mm q 1) (rc mm q 2) (t + 1000) i4, mkC (rc lq q 1) (rc lq q 2) (rc lq q 3) (rc lq q 4) (rc mm q 0) (rc mm q 1) (rc mm q 2) (t + 1000) i4, mkP (rc lq q 1) (rc lq q 2) (rc lq q 3) (rc lq q 4) (rc mm q 0) (rc mm q 1) (rc mm q 2) (t + 1000) i4]).length := by simp
       rw [hlen] at hM
       replace hM := hM.move 8 11 rfl (by decide)
       refine hK7 _ _ ⟨(q + 1, (mm).set q [mkL (rc lq q 1) (rc lq q 2) (rc lq q 3) (rc lq q 4) (rc mm q 0) (rc mm q 1) (rc mm q 2) (t + 1000) i4, mkC (rc lq q 1) (rc lq q 2) (rc lq q 3) (rc lq q 4) (rc mm q 0) (rc mm q 1) (rc mm q 2) (t + 1000) i4, mkP (rc lq q 1) (rc lq q 2) (rc lq q 3) (rc lq q 4) (rc mm q 0) (rc mm q 1) (rc mm q 2) (t + 1000) i4], AA6, cc6), ⟨(((((((Fr.nil hF).c hF (i := 8) rfl rfl).c hF (i := 6) rfl rfl).c hF (i := 4) rfl rfl).c hF (i := 3) rfl rfl).c hF (i := 1) rfl rfl).c hF (i := 10) rfl (vi (show ((q : Int) + 1 : Int) = ((q + 1) : Int) from by omega))), (hM.sub ((((((((Sub.nil.c (k := 8) rfl rfl).c (k := 7) rfl rfl).c (k := 6) rfl rfl).c (k := 5) rfl rfl).c (k := 4) rfl rfl).c (k := 3) rfl rfl).c (k := 2) rfl rfl).c (k := 1) rfl rfl)), (show ((q + 1) : Int) ≤ (lq.length : Int) from by omega), (show PsAt lq lm port t i4 (q + 1) ((mm).set q [mkL (rc lq q 1) (rc lq q 2) (rc lq q 3) (rc lq q 4) (rc mm q 0) (rc mm q 1) (rc mm q 2) (t + 1000) i4, mkC (rc lq q 1) (rc lq q 2) (rc lq q 3) (rc lq q 4) (rc mm q 0) (rc mm q 1) (rc mm q 2) (t + 1000) i4, mkP (rc lq q 1) (rc lq q 2) (rc lq q 3) (rc lq q 4) (rc mm q 0) (rc mm q 1) (rc mm q 2) (t + 1000) i4]) from by exact PsAt.step hmm.2 hmm.1 (by omega) (by omega) (by have := hz15; rw [hmm.1] at this; exact this)), (show WR 3 ((mm).set q [mkL (rc lq q 1) (rc lq q 2) (rc lq q 3) (rc lq q 4) (rc mm q 0) (rc mm q 1) (rc mm q 2) (t + 1000) i4, mkC (rc lq q 1) (rc lq q 2) (rc lq q 3) (rc lq q 4) (rc mm q 0) (rc mm q 1) (rc mm q 2) (t + 1000) i4, mkP (rc lq q 1) (rc lq q 2) (rc lq q 3) (rc lq q 4) (rc mm q 0) (rc mm q 1) (rc mm q 2) (t + 1000) i4]) from by exact WR.set (by assumption) rfl), (show (((mm).set q [mkL (rc lq q 1) (rc lq q 2) (rc lq q 3) (rc lq q 4) (rc mm q 0) (rc mm q 1) (rc mm q 2) (t + 1000) i4, mkC (rc lq q 1) (rc lq q 2) (rc lq q 3) (rc lq q 4) (rc mm q 0) (rc mm q 1) (rc mm q 2) (t + 1000) i4, mkP (rc lq q 1) (rc lq q 2) (rc lq q 3) (rc lq q 4) (rc mm q 0) (rc mm q 1) (rc mm q 2) (t + 1000) i4]).length : Int) = (lm.length : Int) from by simp; omega), (show AA6 = none → ((mm).set q [mkL (rc lq q 1) (rc lq q 2) (rc lq q 3) (rc lq q 4) (rc mm q 0) (rc mm q 1) (rc mm q 2) (t + 1000) i4, mkC (rc lq q 1) (rc lq q 2) (rc lq q 3) (rc lq q 4) (rc mm q 0) (rc mm q 1) (rc mm q 2) (t + 1000) i4, mkP (rc lq q 1) (rc lq q 2) (rc lq q 3) (rc lq q 4) (rc mm q 0) (rc mm q 1) (rc mm q 2) (t + 1000) i4]).length = 0 ∧ cc6 = 0 from by exact fun h => by have := hnl h; simp; omega), (show Gok w0 A4 AA6 from by exact hgk)⟩, (show lq.length - (q + 1) < lq.length - q from by omega)⟩
    ·skip
     replace hF := hF.c hF (i := 41) (v := .bool true) rfl (nF hz9)
     refine cT hF (by kernel_rfl) (by kernel_rfl) ?_
     refine wp_exit ?_
     refine hK10 _ _ ?_
     refine wp_region_lit ?_
     refine sB 1 [(31, .int .i64 (q : Int))] hF (by kernel_rfl) fun a hF => ?_
     refine wl (eP 32 (v0 := .int .i64 (IntKind.i64.wrap ((q : Int) + 1))) (v := .int .i64 ((q : Int) + 1)) hF (by kernel_rfl) (fun _ => by kernel_rfl) (wi (by omega)) fun a hF => ?_)
     refine sB 1 [(10, .int .i64 ((q : Int) + 1))] hF (by kernel_rfl) fun a hF => ?_
     refine wpList_nil ?_
     refine hK7 _ _ ⟨(q + 1, mm, G, gc), ⟨(((((((Fr.nil hF).c hF (i := 8) rfl rfl).c hF (i := 6) rfl rfl).c hF (i := 4) rfl rfl).c hF (i := 3) rfl rfl).c hF (i := 1) rfl rfl).c hF (i := 10) rfl (vi (show ((q : Int) + 1 : Int) = ((q + 1) : Int) from by omega))), (hM.sub ((((((((Sub.nil.c (k := 8) rfl rfl).c (k := 7) rfl rfl).c (k := 6) rfl rfl).c (k := 5) rfl rfl).c (k := 4) rfl rfl).c (k := 3) rfl rfl).c (k := 2) rfl rfl).c (k := 1) rfl rfl)), (show ((q + 1) : Int) ≤ (lq.length : Int) from by omega), (show PsAt lq lm port t i4 (q + 1) mm from by exact PsAt.skip (by assumption) (by assumption)), (show WR 3 mm from by assumption), (show (mm.length : Int) = (lm.length : Int) from by omega), (show G = none → mm.length = 0 ∧ gc = 0 from by assumption), (show Gok w0 A4 G from by assumption)⟩, (show lq.length - (q + 1) < lq.length - q from by omega)⟩
   ·skip
    replace hF := hF.c hF (i := 30) (v := .bool false) rfl (bF hz8)
    refine cF hF (by kernel_rfl) (by kernel_rfl) ?_
    refine wp_exit ?_
    refine hK5 _ _ ?_
    refine wp_seq_k fun K21 hK21 => ?_
    refine wp_region_lit ?_
    refine wl (eL 73 5 0 (v := .agg #[.slice A la.length ca, .slice A2 lq.length cq_, .int .i64 t, .slice A3 ls.length cs, .slice G mm.length gc]) hF hM (by kernel_rfl) rfl rfl (by kernel_rfl) (by kernel_rfl) fun a w hF hM => ?_)
    refine wl (sStore (i := 7) (off := 0) (cs' := #[.slice A la.length ca, .slice A2 lq.length cq_, .int .i64 t, .slice A3 ls.length cs, .slice G mm.length gc]) hF hM (by kernel_rfl) rfl rfl (by kernel_rfl) (by kernel_rfl) rfl (by kernel_rfl) fun w hM => ?_)
    refine sB 1 [(9, .int .i64 0)] hF (by kernel_rfl) fun a hF => ?_
    refine wpList_nil ?_
    refine hK21 _ _ ?_
    refine wp_ret ?_
    refine hR0 _ _ ?_
    refine ret_of hF hM (.cell (i := 7) rfl rfl (v := .agg #[.slice A la.length ca, .slice A2 lq.length cq_, .int .i64 t, .slice A3 ls.length cs, .slice G mm.length gc]) (by kernel_rfl) (.tmp rfl (.nil))) ?_
    have e2 := e.symm.trans (show psR la lq ls lm port i1 i3 i4 t = (ls, mm, 0) from by unfold psR; rw [if_pos (show i3 ≤ 5 by omega), PsAt.done (mm := mm) (q := q) (by assumption) (by omega)])
    have eq1 := (Prod.mk.inj e2).1
    have eq2 := (Prod.mk.inj (Prod.mk.inj e2).2).1
    have eq3 := (Prod.mk.inj (Prod.mk.inj e2).2).2
    clear e2 e
    have hml : mm.length = lm.length := by omega
    subst eq1 eq2 eq3
    subst e3 e4
    exact ⟨A3, cs, G, gc, by first | rfl | (rw [hml]; rfl), hM.roSame (k := 3) rfl, ⟨hM.ok 8 _ rfl, Gok.ret (by assumption)⟩, hM.bel⟩
 ·skip
  replace hF := hF.c hF (i := 25) (v := .bool false) rfl (bF hz1)
  refine cF hF (by kernel_rfl) (by kernel_rfl) ?_
  refine wp_skip ?_
  refine hK3 _ _ ?_
  refine wp_seq_k fun K22 hK22 => ?_
  refine wp_region_lit ?_
  refine wl (eL 74 5 0 (v := .agg #[.slice A la.length ca, .slice A2 lq.length cq_, .int .i64 t, .slice A3 ls.length cs, .slice A4 lm.length cm]) hF hM (by kernel_rfl) rfl rfl (by kernel_rfl) (by kernel_rfl) fun a w hF hM => ?_)
  refine sB 1 [(75, .int .i64 port)] hF (by kernel_rfl) fun a hF => ?_
  refine wl (eL 76 6 0 (v := .agg #[.int .i64 i1, .int .i64 i2, .int .i64 i3, .int .i64 i4, .int .i64 i5]) hF hM (by kernel_rfl) rfl rfl (by kernel_rfl) (by kernel_rfl) fun a w hF hM => ?_)
  refine wl (eM 77 (v := .int .i64 (regI port i1 i3 la)) hF hM (by kernel_rfl) (yld_call (f := 19) (args := #[.agg #[.slice A la.length ca, .slice A2 lq.length cq_, .int .i64 t, .slice A3 ls.length cs, .slice A4 lm.length cm], .int .i64 port, .agg #[.int .i64 i1, .int .i64 i2, .int .i64 i3, .int .i64 i4, .int .i64 i5]]) hF (by kernel_rfl) (fun _ => by kernel_rfl) (fun w hM => rFind33_w A la ca A2 lq cq_ t A3 ls cs A4 lm cm port i1 i2 i3 i4 i5 w (hM.ok 1 _ rfl) hW (hM.ok 2 _ rfl) hW2 (hM.ok 3 _ rfl) (hM.ok 4 _ rfl) hW4 (by omega))) fun a w hF hM => ?_)
  refine sB 1 [(16, .int .i64 (regI port i1 i3 la))] hF (by kernel_rfl) fun a hF => ?_
  refine wpList_nil ?_
  refine hK22 _ _ ?_
  refine wp_seq_k fun K23 hK23 => ?_
  refine wp_seq_k fun K24 hK24 => ?_
  refine wp_region_lit ?_
  refine sB 2 [(78, .int .i64 (regI port i1 i3 la)), (79, .bool (decide (regI port i1 i3 la < 0)))] hF (by kernel_rfl) fun a hF => ?_
  refine wpList_nil ?_
  refine hK24 _ _ ?_
  by_cases hz16 : regI port i1 i3 la < 0
  ·skip
   replace hF := hF.c hF (i := 79) (v := .bool true) rfl (bT hz16)
   refine cT hF (by kernel_rfl) (by kernel_rfl) ?_
   refine wp_seq_k fun K25 hK25 => ?_
   refine wp_region_lit ?_
   refine wl (eL 80 5 0 (v := .agg #[.slice A la.length ca, .slice A2 lq.length cq_, .int .i64 t, .slice A3 ls.length cs, .slice A4 lm.length cm]) hF hM (by kernel_rfl) rfl rfl (by kernel_rfl) (by kernel_rfl) fun a w hF hM => ?_)
   refine wl (sStore (i := 7) (off := 0) (cs' := #[.slice A la.length ca, .slice A2 lq.length cq_, .int .i64 t, .slice A3 ls.length cs, .slice A4 lm.length cm]) hF hM (by kernel_rfl) rfl rfl (by kernel_rfl) (by kernel_rfl) rfl (by kernel_rfl) fun w hM => ?_)
   refine sB 1 [(9, .int .i64 1)] hF (by kernel_rfl) fun a hF => ?_
   refine wpList_nil ?_
   refine hK25 _ _ ?_
   refine wp_ret ?_
   refine hR0 _ _ ?_
   refine ret_of hF hM (.cell (i := 7) rfl rfl (v := .agg #[.slice A la.length ca, .slice A2 lq.length cq_, .int .i64 t, .slice A3 ls.length cs, .slice A4 lm.length cm]) (by kernel_rfl) (.tmp rfl (.nil))) ?_
   have e2 := e.symm.trans (show psR la lq ls lm port i1 i3 i4 t = (ls, lm, 1) from by unfold psR; rw [if_neg (show ¬ i3 ≤ 5 by omega)]; have hA : psA la ls port i1 i3 i4 t = (ls, 1) := by { unfold psA; rw [if_pos hz16] }; rw [hA])
   have eq1 := (Prod.mk.inj e2).1
   have eq2 := (Prod.mk.inj (Prod.mk.inj e2).2).1
   have eq3 := (Prod.mk.inj (Prod.mk.inj e2).2).2
   clear e2 e
   subst eq1 eq2 eq3
   subst e3 e4
   exact ⟨A3, cs, A4, cm, rfl, hM.roSame (k := 3) rfl, hM.roSame (k := 4) rfl, hM.bel⟩
  ·skip
   replace hF := hF.c hF (i := 79) (v := .bool false) rfl (bF hz16)
   refine cF hF (by kernel_rfl) (by kernel_rfl) ?_
   refine wp_skip ?_
   refine hK23 _ _ ?_
   refine wp_seq_k fun K26 hK26 => ?_
   obtain ⟨kk, hkk, hklt, hkr, hkn⟩ := reg_pos hz16
   rw [hkk] at hF
   refine wp_region_lit ?_
   refine sB 1 [(81, .pointer (some ⟨bb1, 0, none⟩))] hF (by kernel_rfl) fun a hF => ?_
   refine wl (eL 82 5 0 (v := .slice A la.length ca) hF hM (by kernel_rfl) rfl rfl (by kernel_rfl) (by kernel_rfl) fun a w hF hM => ?_)
   refine sB 1 [(83, .int .i64 (kk : Int))] hF (by kernel_rfl) fun a hF => ?_
   refine wl (eM 84 (v := .pointer (some (ea A (kk * 7)))) hF hM (by kernel_rfl) (yld_ix (kd := .i64) (e := 57) (len := la.length) (cap := ca) (i := (kk : Int)) (size := 7) (A := A) hF rfl (by kernel_rfl) (by kernel_rfl) (by kernel_rfl) (by kernel_rfl) (by kernel_rfl) (roK 1 rfl) (by omega) (by omega) (by rw [flatR_length hW]; (try simp only [List.length_map, List.length_append, List.length_replicate, List.length_set, List.length_cons, List.length_nil, flat2_length, List.length_take]); omega)) fun a w hF hM => ?_)
   refine wl (eM 85 (v := .agg #[.int .i64 (rc la kk 0), .int .i64 (rc la kk 1), .int .i64 (rc la kk 2), .int .i64 (rc la kk 3), .int .i64 (rc la kk 4), .int .i64 (rc la kk 5), .int .i64 (rc la kk 6)]) hF hM (by kernel_rfl) (yld_roM (A := A) (j := kk * 7) (us := [.int .i64 (rc la kk 0), .int .i64 (rc la kk 1), .int .i64 (rc la kk 2), .int .i64 (rc la kk 3), .int .i64 (rc la kk 4), .int .i64 (rc la kk 5), .int .i64 (rc la kk 6)]) hF rfl (by kernel_rfl) (by kernel_rfl) (roK 1 rfl) (by kernel_rfl) rfl (rc_sub (k := kk) (f := 0) (m := 7) hW (by omega) (by decide) rfl)) fun a w hF hM => ?_)
   refine wl (eN 17 12 (t := 57) (fun b => .pointer (some ⟨b, 0, none⟩)) #[.int .i64 0, .int .i64 0, .int .i64 0, .int .i64 0, .int .i64 0, .int .i64 0, .int .i64 0] hF hM (by kernel_rfl) (fun _ => by kernel_rfl) fun bb7 a w hF hM => ?_)
   refine wl (sStore (i := 12) (off := 0) (cs' := #[.int .i64 (rc la kk 0), .int .i64 (rc la kk 1), .int .i64 (rc la kk 2), .int .i64 (rc la kk 3), .int .i64 (rc la kk 4), .int .i64 (rc la kk 5), .int .i64 (rc la kk 6)]) hF hM (by kernel_rfl) rfl rfl (by kernel_rfl) (by kernel_rfl) rfl (by kernel_rfl) fun w hM => ?_)
   refine wpList_nil ?_
   refine hK26 _ _ ?_
   refine wp_seq_k fun K27 hK27 => ?_
   refine wp_seq_k fun K28 hK28 => ?_
   refine wp_region_lit ?_
   refine sB 1 [(86, .pointer (some ⟨bb7, 2, none⟩))] hF (by kernel_rfl) fun a hF => ?_
   refine wl (eL 87 12 2 (v := .int .i64 (rc la kk 2)) hF hM (by kernel_rfl) rfl rfl (by kernel_rfl) (by kernel_rfl) fun a w hF hM => ?_)
   refine sB 1 [(88, .bool (decide (rc la kk 2 = 6)))] hF (by kernel_rfl) fun a hF => ?_
   refine wpList_nil ?_
   refine hK28 _ _ ?_
   by_cases hz17 : rc la kk 2 = 6
   ·skip
    replace hF := hF.c hF (i := 88) (v := .bool true) rfl (bT hz17)
    refine cT hF (by kernel_rfl) (by kernel_rfl) ?_
    refine wp_seq_k fun K29 hK29 => ?_
    refine wp_seq_k fun K30 hK30 => ?_
    refine wp_region_lit ?_
    refine sB 1 [(89, .pointer (some ⟨bb2, 3, none⟩))] hF (by kernel_rfl) fun a hF => ?_
    refine wl (eL 90 6 3 (v := .int .i64 i4) hF hM (by kernel_rfl) rfl rfl (by kernel_rfl) (by kernel_rfl) fun a w hF hM => ?_)
    refine sB 1 [(91, .pointer (some ⟨bb7, 3, none⟩))] hF (by kernel_rfl) fun a hF => ?_
    refine wl (eL 92 12 3 (v := .int .i64 (rc la kk 3)) hF hM (by kernel_rfl) rfl rfl (by kernel_rfl) (by kernel_rfl) fun a w hF hM => ?_)
    refine sB 1 [(93, .bool (decide (rc la kk 3 < i4)))] hF (by kernel_rfl) fun a hF => ?_
    refine wpList_nil ?_
    refine hK30 _ _ ?_
    by_cases hz18 : rc la kk 3 < i4
    ·skip
     replace hF := hF.c hF (i := 93) (v := .bool true) rfl (bT hz18)
     refine cT hF (by kernel_rfl) (by kernel_rfl) ?_
     refine wp_seq_k fun K31 hK31 => ?_
     refine wp_region_lit ?_
     refine wl (eL 94 5 0 (v := .agg #[.slice A la.length ca, .slice A2 lq.length cq_, .int .i64 t, .slice A3 ls.length cs, .slice A4 lm.length cm]) hF hM (by kernel_rfl) rfl rfl (by kernel_rfl) (by kernel_rfl) fun a w hF hM => ?_)
     refine wl (sStore (i := 7) (off := 0) (cs' := #[.slice A la.length ca, .slice A2 lq.length cq_, .int .i64 t, .slice A3 ls.length cs, .slice A4 lm.length cm]) hF hM (by kernel_rfl) rfl rfl (by kernel_rfl) (by kernel_rfl) rfl (by kernel_rfl) fun w hM => ?_)
     refine sB 1 [(9, .int .i64 2)] hF (by kernel_rfl) fun a hF => ?_
     refine wpList_nil ?_
     refine hK31 _ _ ?_
     refine wp_ret ?_
     refine hR0 _ _ ?_
     refine ret_of hF hM (.cell (i := 7) rfl rfl (v := .agg #[.slice A la.length ca, .slice A2 lq.length cq_, .int .i64 t, .slice A3 ls.length cs, .slice A4 lm.length cm]) (by kernel_rfl) (.tmp rfl (.nil))) ?_
     have e2 := e.symm.trans (show psR la lq ls lm port i1 i3 i4 t = (ls, lm, 2) from by unfold psR; rw [if_neg (show ¬ i3 ≤ 5 by omega)]; have hA : psA la ls port i1 i3 i4 t = (ls, 2) := by { unfold psA; rw [if_neg (show ¬ regI port i1 i3 la < 0 by omega), hkk, Int.toNat_natCast, if_pos hz17, if_pos hz18] }; rw [hA])
     have eq1 := (Prod.mk.inj e2).1
     have eq2 := (Prod.mk.inj (Prod.mk.inj e2).2).1
     have eq3 := (Prod.mk.inj (Prod.mk.inj e2).2).2
     clear e2 e
     subst eq1 eq2 eq3
     subst e3 e4
     exact ⟨A3, cs, A4, cm, rfl, hM.roSame (k := 3) rfl, hM.roSame (k := 4) rfl, hM.bel⟩
    ·skip
     replace hF := hF.c hF (i := 93) (v := .bool false) rfl (bF hz18)
     refine cF hF (by kernel_rfl) (by kernel_rfl) ?_
     refine wp_skip ?_
     refine hK29 _ _ ?_
     refine wp_seq_k fun K32 hK32 => ?_
     refine wp_region_lit ?_
     refine wl (eL 95 5 0 (v := .agg #[.slice A la.length ca, .slice A2 lq.length cq_, .int .i64 t, .slice A3 ls.length cs, .slice A4 lm.length cm]) hF hM (by kernel_rfl) rfl rfl (by kernel_rfl) (by kernel_rfl) fun a w hF hM => ?_)
     refine wl (sStore (i := 7) (off := 0) (cs' := #[.slice A la.length ca, .slice A2 lq.length cq_, .int .i64 t, .slice A3 ls.length cs, .slice A4 lm.length cm]) hF hM (by kernel_rfl) rfl rfl (by kernel_rfl) (by kernel_rfl) rfl (by kernel_rfl) fun w hM => ?_)
     refine sB 1 [(9, .int .i64 0)] hF (by kernel_rfl) fun a hF => ?_
     refine wpList_nil ?_
     refine hK32 _ _ ?_
     refine wp_ret ?_
     refine hR0 _ _ ?_
     refine ret_of hF hM (.cell (i := 7) rfl rfl (v := .agg #[.slice A la.length ca, .slice A2 lq.length cq_, .int .i64 t, .slice A3 ls.length cs, .slice A4 lm.length cm]) (by kernel_rfl) (.tmp rfl (.nil))) ?_
     have e2 := e.symm.trans (show psR la lq ls lm port i1 i3 i4 t = (ls, lm, 0) from by unfold psR; rw [if_neg (show ¬ i3 ≤ 5 by omega)]; have hA : psA la ls port i1 i3 i4 t = (ls, 0) := by { unfold psA; rw [if_neg (show ¬ regI port i1 i3 la < 0 by omega), hkk, Int.toNat_natCast, if_pos hz17, if_neg hz18] }; rw [hA])
     have eq1 := (Prod.mk.inj e2).1
     have eq2 := (Prod.mk.inj (Prod.mk.inj e2).2).1
     have eq3 := (Prod.mk.inj (Prod.mk.inj e2).2).2
     clear e2 e
     subst eq1 eq2 eq3
     subst e3 e4
     exact ⟨A3, cs, A4, cm, rfl, hM.roSame (k := 3) rfl, hM.roSame (k := 4) rfl, hM.bel⟩
   ·skip
    replace hF := hF.c hF (i := 88) (v := .bool false) rfl (bF hz17)
    refine cF hF (by kernel_rfl) (by kernel_rfl) ?_
    refine wp_skip ?_
    refine hK27 _ _ ?_
    refine wp_seq_k fun K33 hK33 => ?_
    have hva := va_7 (va_k h0 hklt) hz17
    refine rQ hM (by kernel_rfl) (by kernel_rfl) ?_
    refine eQL 97 12 0 (v := .agg #[.int .i64 (rc la kk 0), .int .i64 (rc la kk 1), .int .i64 (rc la kk 2), .int .i64 (rc la kk 3), .int .i64 (rc la kk 4), .int .i64 (rc la kk 5), .int .i64 (rc la kk 6)]) hF (by kernel_rfl) rfl rfl (by kernel_rfl) (by kernel_rfl) fun a hF => ?_
    refine eQ 98 (v0 := .pointer (some ⟨bb1, 3, none⟩)) (v := .pointer (some ⟨bb1, 3, none⟩)) hF (by kernel_rfl) (fun _ => by kernel_rfl) rfl fun a hF => ?_
    refine eQL 99 5 3 (v := .slice A3 ls.length cs) hF (by kernel_rfl) rfl rfl (by kernel_rfl) (by kernel_rfl) fun a hF => ?_
    refine eQ 100 (v0 := .int .i64 (kk : Int)) (v := .int .i64 (kk : Int)) hF (by kernel_rfl) (fun _ => by kernel_rfl) rfl fun a hF => ?_
    refine eQ2 101 (v := .pointer (some (ea A3 (kk)))) hF (by kernel_rfl) (yld_ix (kd := .i64) (e := 3) (len := ls.length) (cap := cs) (i := (kk : Int)) (size := 1) (A := A3) hF rfl (by kernel_rfl) (by kernel_rfl) (by kernel_rfl) (by kernel_rfl) (by kernel_rfl) (roK 3 rfl) (by omega) (by omega) (by rw [List.length_map]; omega)) fun a hF => ?_
    refine eQ2 102 (v := .int .i64 (nt ls kk)) hF (by kernel_rfl) (yld_ro1 (A := A3) (j := kk) hF rfl (by kernel_rfl) (by kernel_rfl) (roK 3 rfl) (by kernel_rfl) (nt_at (by omega))) fun a hF => ?_
    refine eQL 103 6 0 (v := .agg #[.int .i64 i1, .int .i64 i2, .int .i64 i3, .int .i64 i4, .int .i64 i5]) hF (by kernel_rfl) rfl rfl (by kernel_rfl) (by kernel_rfl) fun a hF => ?_
    refine eQ 104 (v0 := .int .i64 t) (v := .int .i64 t) hF (by kernel_rfl) (fun _ => by kernel_rfl) rfl fun a hF => ?_
    obtain ⟨sn, sv, hsch⟩ : ∃ y z : Int, schR (rc la kk 3) (rc la kk 4) (rc la kk 5) (rc la kk 6) (nt ls kk) i4 t = (y, z) := ⟨_, _, rfl⟩
    refine eQ2 105 (v := .tuple #[.int .i64 sn, .int .i64 sv]) hF (by kernel_rfl) (yld_call (f := 40) (args := #[.agg #[.int .i64 (rc la kk 0), .int .i64 (rc la kk 1), .int .i64 (rc la kk 2), .int .i64 (rc la kk 3), .int .i64 (rc la kk 4), .int .i64 (rc la kk 5), .int .i64 (rc la kk 6)], .int .i64 (nt ls kk), .agg #[.int .i64 i1, .int .i64 i2, .int .i64 i3, .int .i64 i4, .int .i64 i5], .int .i64 t]) hF (by kernel_rfl) (fun _ => by kernel_rfl) (fun w hM => sched_w (rc la kk 0) (rc la kk 1) (rc la kk 2) (rc la kk 3) (rc la kk 4) (rc la kk 5) (rc la kk 6) (nt ls kk) i1 i2 i3 i4 i5 t w (by omega) hsch)) fun a hF => ?_
    refine eQ 96 (v0 := .tuple #[.int .i64 sn, .int .i64 sv]) (v := .tuple #[.int .i64 sn, .int .i64 sv]) hF (by kernel_rfl) (fun _ => by kernel_rfl) rfl fun a hF => ?_
    refine eQ 106 (v0 := .int .i64 sn) (v := .int .i64 sn) hF (by kernel_rfl) (fun _ => by kernel_rfl) rfl fun a hF => ?_
    refine eQ 107 (v0 := .int .i64 sv) (v := .int .i64 sv) hF (by kernel_rfl) (fun _ => by kernel_rfl) rfl fun a hF => ?_
    refine eQ 18 (v0 := .int .i64 sn) (v := .int .i64 sn) hF (by kernel_rfl) (fun _ => by kernel_rfl) rfl fun a hF => ?_
    refine eQ 19 (v0 := .int .i64 sv) (v := .int .i64 sv) hF (by kernel_rfl) (fun _ => by kernel_rfl) rfl fun a hF => ?_
    refine wpQuiet_nil ?_
    intro w hM
    refine hK33 _ _ ?_
    refine wp_seq_k fun K34 hK34 => ?_
    refine wp_seq_k fun K35 hK35 => ?_
    refine wp_region_lit ?_
    refine sB 2 [(108, .int .i64 sv), (109, .bool (decide (sv = 0)))] hF (by kernel_rfl) fun a hF => ?_
    refine wpList_nil ?_
    refine hK35 _ _ ?_
    by_cases hz19 : sv = 0
    ·skip
     replace hF := hF.c hF (i := 109) (v := .bool true) rfl (bT hz19)
     refine cT hF (by kernel_rfl) (by kernel_rfl) ?_
     refine wp_seq_k fun K36 hK36 => ?_
     refine wp_region_lit ?_
     refine sB 1 [(20, .slice none 0 0)] hF (by kernel_rfl) fun a hF => ?_
     refine wpList_nil ?_
     refine hK36 _ _ ?_
     refine wp_seq_k fun K37 hK37 => ?_
     refine wp_region_lit ?_
     refine sB 2 [(110, .slice none 0 0), (111, .pointer (some ⟨bb1, 3, none⟩))] hF (by kernel_rfl) fun a hF => ?_
     refine wl (eL 112 5 3 (v := .slice A3 ls.length cs) hF hM (by kernel_rfl) rfl rfl (by kernel_rfl) (by kernel_rfl) fun a w hF hM => ?_)
     replace hM := hM.addNil 13 3 1
     refine wl (sAppA 113 13 (e := 3) (size := 1) (bytes := 8) (z := .int .i64 0) (m := ls.length) (c := cs) (l := 0) (cap := 0) (A := none) (news := (ls.map (Value.int .i64))) (ls.map (Value.int .i64)) hF hM (by kernel_rfl) rfl (by kernel_rfl) (by kernel_rfl) (by kernel_rfl) rfl rfl rfl (by first | (simp; done) | (simp; omega)) (roK 3 rfl) (ints_one _ _) (by omega) (by decide) rfl (fun h => hn3 h) fun AA8 cc8 a w hF hM => ?_)
     refine sB 1 [(20, .slice AA8 (0 + ls.length) cc8)] hF (by kernel_rfl) fun a hF => ?_
     refine wpList_nil ?_
     refine hK37 _ _ ?_
     refine wp_seq_k fun K38 hK38 => ?_
     rw [Nat.zero_add] at hM
     try rw [Nat.zero_add] at hF
     refine wp_region_lit ?_
     refine sB 3 [(114, .slice AA8 ls.length cc8), (115, .int .i64 (kk : Int)), (116, .int .i64 sn)] hF (by kernel_rfl) fun a hF => ?_
     refine wl (eM 117 (v := .pointer (some (ea AA8 (kk)))) hF hM (by kernel_rfl) (yld_ix (kd := .i64) (e := 3) (len := ls.length) (cap := cc8) (i := (kk : Int)) (size := 1) (A := AA8) hF rfl (by kernel_rfl) (by kernel_rfl) (by kernel_rfl) (by kernel_rfl) (by kernel_rfl) (roO 13 rfl) (by omega) (by omega) (by rw [List.length_map]; omega)) fun a w hF hM => ?_)
     refine wl (sStoreO 13 (j := kk) (A := AA8) (((ls).set kk sn).map (Value.int .i64)) hF hM (by kernel_rfl) rfl rfl (by kernel_rfl) (by kernel_rfl) rfl (by kernel_rfl) rfl rfl (by rw [List.length_map]; omega) (map_set' _ _ _ _) fun w hM => ?_)
     refine wpList_nil ?_
     refine hK38 _ _ ?_
     refine wp_region_lit ?_
     refine sB 2 [(118, .slice AA8 ls.length cc8), (119, .pointer (some ⟨bb1, 3, none⟩))] hF (by kernel_rfl) fun a hF => ?_
     refine wl (sStore (i := 5) (off := 3) (cs' := #[.slice A la.length ca, .slice A2 lq.length cq_, .int .i64 t, .slice AA8 ls.length cc8, .slice A4 lm.length cm]) hF hM (by kernel_rfl) rfl rfl (by kernel_rfl) (by kernel_rfl) rfl (by kernel_rfl) fun w hM => ?_)
     refine wpList_nil ?_
     refine hK34 _ _ ?_
     refine wp_seq_k fun K39 hK39 => ?_
     refine wp_region_lit ?_
     refine wl (eL 120 5 0 (v := .agg #[.slice A la.length ca, .slice A2 lq.length cq_, .int .i64 t, .slice AA8 ls.length cc8, .slice A4 lm.length cm]) hF hM (by kernel_rfl) rfl rfl (by kernel_rfl) (by kernel_rfl) fun a w hF hM => ?_)
     refine sB 1 [(121, .int .i64 sv)] hF (by kernel_rfl) fun a hF => ?_
     refine wl (sStore (i := 7) (off := 0) (cs' := #[.slice A la.length ca, .slice A2 lq.length cq_, .int .i64 t, .slice AA8 ls.length cc8, .slice A4 lm.length cm]) hF hM (by kernel_rfl) rfl rfl (by kernel_rfl) (by kernel_rfl) rfl (by kernel_rfl) fun w hM => ?_)
     refine sB 1 [(9, .int .i64 sv)] hF (by kernel_rfl) fun a hF => ?_
     refine wpList_nil ?_
     refine hK39 _ _ ?_
     refine wp_ret ?_
     refine hR0 _ _ ?_
     refine ret_of hF hM (.cell (i := 7) rfl rfl (v := .agg #[.slice A la.length ca, .slice A2 lq.length cq_, .int .i64 t, .slice AA8 ls.length cc8, .slice A4 lm.length cm]) (by kernel_rfl) (.tmp rfl (.nil))) ?_
     have e2 := e.symm.trans (show psR la lq ls lm port i1 i3 i4 t = ((ls).set kk sn, lm, sv) from by unfold psR; rw [if_neg (show ¬ i3 ≤ 5 by omega)]; have hA : psA la ls port i1 i3 i4 t = ((ls).set kk sn, sv) := by { rw [psA_sch hkk hz17 hsch, if_pos hz19] }; rw [hA])
     have eq1 := (Prod.mk.inj e2).1
     have eq2 := (Prod.mk.inj (Prod.mk.inj e2).2).1
     have eq3 := (Prod.mk.inj (Prod.mk.inj e2).2).2
     clear e2 e
     subst eq1 eq2 eq3
     subst e3 e4
     exact ⟨AA8, cc8, A4, cm, rfl, hM.ownNew (k := 13) rfl, hM.roSame (k := 4) rfl, hM.bel⟩
    ·skip
     replace hF := hF.c hF (i := 109) (v := .bool false) rfl (bF hz19)
     refine cF hF (by kernel_rfl) (by kernel_rfl) ?_
     refine wp_skip ?_
     refine hK34 _ _ ?_
     refine wp_seq_k fun K40 hK40 => ?_
     refine wp_region_lit ?_
     refine wl (eL 120 5 0 (v := .agg #[.slice A la.length ca, .slice A2 lq.length cq_, .int .i64 t, .slice A3 ls.length cs, .slice A4 lm.length cm]) hF hM (by kernel_rfl) rfl rfl (by kernel_rfl) (by kernel_rfl) fun a w hF hM => ?_)
     refine sB 1 [(121, .int .i64 sv)] hF (by kernel_rfl) fun a hF => ?_
     refine wl (sStore (i := 7) (off := 0) (cs' := #[.slice A la.length ca, .slice A2 lq.length cq_, .int .i64 t, .slice A3 ls.length cs, .slice A4 lm.length cm]) hF hM (by kernel_rfl) rfl rfl (by kernel_rfl) (by kernel_rfl) rfl (by kernel_rfl) fun w hM => ?_)
     refine sB 1 [(9, .int .i64 sv)] hF (by kernel_rfl) fun a hF => ?_
     refine wpList_nil ?_
     refine hK40 _ _ ?_
     refine wp_ret ?_
     refine hR0 _ _ ?_
     refine ret_of hF hM (.cell (i := 7) rfl rfl (v := .agg #[.slice A la.length ca, .slice A2 lq.length cq_, .int .i64 t, .slice A3 ls.length cs, .slice A4 lm.length cm]) (by kernel_rfl) (.tmp rfl (.nil))) ?_
     have e2 := e.symm.trans (show psR la lq ls lm port i1 i3 i4 t = (ls, lm, sv) from by unfold psR; rw [if_neg (show ¬ i3 ≤ 5 by omega)]; have hA : psA la ls port i1 i3 i4 t = (ls, sv) := by { rw [psA_sch hkk hz17 hsch, if_neg hz19] }; rw [hA])
     have eq1 := (Prod.mk.inj e2).1
     have eq2 := (Prod.mk.inj (Prod.mk.inj e2).2).1
     have eq3 := (Prod.mk.inj (Prod.mk.inj e2).2).2
     clear e2 e
     subst eq1 eq2 eq3
     subst e3 e4
     exact ⟨A3, cs, A4, cm, rfl, hM.roSame (k := 3) rfl, hM.roSame (k := 4) rfl, hM.bel⟩

end Go.Proofs.Ytogeficooemngaa
