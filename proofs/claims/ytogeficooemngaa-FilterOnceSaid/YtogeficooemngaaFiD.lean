/-
  filter.Check.
-/
import Derived.Test.YtogeficooemngaaFiC
import Derived.Test.YtogeficooemngaaMeterB
namespace Go.Proofs.Ytogeficooemngaa
open Go.RowKit
set_option linter.unusedVariables false
set_option linter.unusedSimpArgs false

def okL (la : List (List Int)) (ls : List Int) (k : Nat) : Prop := -1 ≤ nt ls k ∧ (rc la k 2 = 6 → nt ls k = -1)
def okM (lq lm : List (List Int)) (now : Int) (k : Nat) : Prop := mtE (rc lq k 1) (rc lq k 2) (rc lq k 3) (rc lq k 4) (rc lm k 0) (rc lm k 1) (rc lm k 2) = 0 ∧ rc lm k 0 ≤ now + 1000
instance (la : List (List Int)) (ls : List Int) (k : Nat) : Decidable (okL la ls k) := by unfold okL; infer_instance
instance (lq lm : List (List Int)) (now : Int) (k : Nat) : Decidable (okM lq lm now k) := by unfold okM; infer_instance
def flP (la lq : List (List Int)) (now : Int) (ls : List Int) (lm : List (List Int)) : Prop := liB la lq = true ∧ (-1000 ≤ now ∧ now ≤ 549755813888) ∧ (ls.length = la.length ∧ lm.length = lq.length) ∧ (∀ k, k < la.length → okL la ls k) ∧ ∀ k, k < lq.length → okM lq lm now k
instance (la lq : List (List Int)) (now : Int) (ls : List Int) (lm : List (List Int)) : Decidable (flP la lq now ls lm) := by unfold flP; infer_instance
def flE (la lq : List (List Int)) (now : Int) (ls : List Int) (lm : List (List Int)) : Int := if flP la lq now ls lm then 0 else 430
theorem fl_0 {la lq lm : List (List Int)} {now : Int} {ls : List Int} (h : flP la lq now ls lm) : 0 = flE la lq now ls lm := by unfold flE; rw [if_pos h]
theorem fl_430 {la lq lm : List (List Int)} {now : Int} {ls : List Int} (h : ¬ flP la lq now ls lm) : 430 = flE la lq now ls lm := by unfold flE; rw [if_neg h]
theorem li_le {la lq : List (List Int)} (h : liB la lq = true) : la.length ≤ 64 ∧ lq.length ≤ 64 := ⟨(of_decide_eq_true h).1, (of_decide_eq_true h).2.1⟩
set_option maxRecDepth 100000 in
theorem fiCheck_w (A : Option Addr) (la : List (List Int)) (ca : Nat) (A2 : Option Addr) (lq : List (List Int)) (cq_ : Nat) (now : Int) (A3 : Option Addr) (ls : List Int) (cs : Nat) (A4 : Option Addr) (lm : List (List Int)) (cm : Nat) (w0 : World) (hA : Ro w0 A (flatR la)) (hW : WR 7 la) (hA2 : Ro w0 A2 (flatR lq)) (hW2 : WR 5 lq) (hA3 : Ro w0 A3 (ls.map (Value.int .i64))) (hA4 : Ro w0 A4 (flatR lm)) (hW4 : WR 3 lm) :
    Calls Try.prog 12 #[.agg #[.slice A la.length ca, .slice A2 lq.length cq_, .int .i64 now, .slice A3 ls.length cs, .slice A4 lm.length cm]] w0 (Ret w0 (.int .i64 (flE la lq now ls lm))) := by
 refine enterK 93 Try.func12 rfl rfl rfl ?_
 intro a hF Q0 hR0 hN0
 have hM := Mem.start w0
 replace hM := hM.addOld 1 hA (Nat.le_refl _)
 replace hM := hM.addOld 2 hA2 (Nat.le_refl _)
 replace hM := hM.addOld 3 hA3 (Nat.le_refl _)
 replace hM := hM.addOld 4 hA4 (Nat.le_refl _)
 refine wp_seq_k fun K1 hK1 => ?_
 refine wp_region_lit ?_
 refine wl (eN 1 5 (t := 27) (fun b => .pointer (some ⟨b, 0, none⟩)) #[.slice A la.length ca, .slice A2 lq.length cq_, .int .i64 now, .slice A3 ls.length cs, .slice A4 lm.length cm] hF hM (by kernel_rfl) (fun _ => by kernel_rfl) fun bb1 a w hF hM => ?_)
 refine sB 1 [(2, .int .i64 0)] hF (by kernel_rfl) fun a hF => ?_
 refine wpList_nil ?_
 refine hK1 _ _ ?_
 refine wp_seq_k fun K2 hK2 => ?_
 refine wp_seq_k fun K3 hK3 => ?_
 cases hz1 : (liB la lq)
 ·skip
  refine wp_region_lit ?_
  refine sB 1 [(8, .pointer (some ⟨bb1, 0, none⟩))] hF (by kernel_rfl) fun a hF => ?_
  refine wl (eL 9 5 0 (v := .slice A la.length ca) hF hM (by kernel_rfl) rfl rfl (by kernel_rfl) (by kernel_rfl) fun a w hF hM => ?_)
  refine sB 1 [(10, .pointer (some ⟨bb1, 1, none⟩))] hF (by kernel_rfl) fun a hF => ?_
  refine wl (eL 11 5 1 (v := .slice A2 lq.length cq_) hF hM (by kernel_rfl) rfl rfl (by kernel_rfl) (by kernel_rfl) fun a w hF hM => ?_)
  refine wl (eM 12 (v := .bool false) hF hM (by kernel_rfl) (Yld.to (yld_call (f := 30) (args := #[.slice A la.length ca, .slice A2 lq.length cq_]) hF (by kernel_rfl) (fun _ => by kernel_rfl) (fun w hM => listed_w A la _ A2 lq _ w (hM.ok 1 _ rfl) hW (hM.ok 2 _ rfl) hW2)) (congrArg Value.bool hz1)) fun a w hF hM => ?_)
  refine sB 7 [(13, .bool true), (14, .bool true), (15, undef), (16, undef), (17, undef), (18, undef), (19, .bool true)] hF (by kernel_rfl) fun a hF => ?_
  refine wpList_nil ?_
  refine hK3 _ _ ?_
  refine cT hF (by kernel_rfl) (by kernel_rfl) ?_
  refine wp_seq_k fun K4 hK4 => ?_
  refine wp_region_lit ?_
  refine sB 1 [(2, .int .i64 430)] hF (by kernel_rfl) fun a hF => ?_
  refine wpList_nil ?_
  refine hK4 _ _ ?_
  refine wp_ret ?_
  refine hR0 _ _ ?_
  refine ret_of hF hM (.tmp rfl (.nil)) ?_
  exact ⟨ret_int (fl_430 (fun z => by have := z.1; rw [hz1] at this; cases this)), hM.bel⟩
 ·skip
  by_cases hz2 : -1000 ≤ now
  ·skip
   by_cases hz3 : now ≤ 549755813888
   ·skip
    refine wp_region_lit ?_
    refine sB 1 [(8, .pointer (some ⟨bb1, 0, none⟩))] hF (by kernel_rfl) fun a hF => ?_
    refine wl (eL 9 5 0 (v := .slice A la.length ca) hF hM (by kernel_rfl) rfl rfl (by kernel_rfl) (by kernel_rfl) fun a w hF hM => ?_)
    refine sB 1 [(10, .pointer (some ⟨bb1, 1, none⟩))] hF (by kernel_rfl) fun a hF => ?_
    refine wl (eL 11 5 1 (v := .slice A2 lq.length cq_) hF hM (by kernel_rfl) rfl rfl (by kernel_rfl) (by kernel_rfl) fun a w hF hM => ?_)
    refine wl (eM 12 (v := .bool true) hF hM (by kernel_rfl) (Yld.to (yld_call (f := 30) (args := #[.slice A la.length ca, .slice A2 lq.length cq_]) hF (by kernel_rfl) (fun _ => by kernel_rfl) (fun w hM => listed_w A la _ A2 lq _ w (hM.ok 1 _ rfl) hW (hM.ok 2 _ rfl) hW2)) (congrArg Value.bool hz1)) fun a w hF hM => ?_)
    refine sB 3 [(13, .bool false), (14, .bool false), (15, .pointer (some ⟨bb1, 2, none⟩))] hF (by kernel_rfl) fun a hF => ?_
    refine wl (eL 16 5 2 (v := .int .i64 now) hF hM (by kernel_rfl) rfl rfl (by kernel_rfl) (by kernel_rfl) fun a w hF hM => ?_)
    refine wl (eM 17 (v := .bool true) hF hM (by kernel_rfl) (yld_call (f := 31) (args := #[.int .i64 now, .int .i64 (-1000), .int .i64 549755813888]) hF (by kernel_rfl) (fun _ => by kernel_rfl) (fun w hM => fiw_yes now (-1000) 549755813888 w hz2 hz3)) fun a w hF hM => ?_)
    refine sB 2 [(18, .bool false), (19, .bool false)] hF (by kernel_rfl) fun a hF => ?_
    refine wpList_nil ?_
    refine hK3 _ _ ?_
    refine cF hF (by kernel_rfl) (by kernel_rfl) ?_
    refine wp_skip ?_
    refine hK2 _ _ ?_
    refine wp_seq_k fun K5 hK5 => ?_
    refine wp_seq_k fun K6 hK6 => ?_
    have hli := li_le hz1
    by_cases hz4 : (ls.length : Int) = (la.length : Int)
    ·skip
     have hli := li_le hz1
     refine wp_region_lit ?_
     refine sB 1 [(20, .pointer (some ⟨bb1, 3, none⟩))] hF (by kernel_rfl) fun a hF => ?_
     refine wl (eL 21 5 3 (v := .slice A3 ls.length cs) hF hM (by kernel_rfl) rfl rfl (by kernel_rfl) (by kernel_rfl) fun a w hF hM => ?_)
     refine sB 2 [(22, .int .i64 (ls.length : Int)), (23, .pointer (some ⟨bb1, 0, none⟩))] hF (by kernel_rfl) fun a hF => ?_
     refine wl (eL 24 5 0 (v := .slice A la.length ca) hF hM (by kernel_rfl) rfl rfl (by kernel_rfl) (by kernel_rfl) fun a w hF hM => ?_)
     refine sB 1 [(25, .int .i64 (la.length : Int))] hF (by kernel_rfl) fun a hF => ?_
     refine wl (eP 26 (v0 := .bool (!decide ((ls.length : Int) = (la.length : Int)))) (v := .bool false) hF (by kernel_rfl) (fun _ => by kernel_rfl) (nT hz4) fun a hF => ?_)
     refine sB 2 [(27, .bool false), (28, .pointer (some ⟨bb1, 4, none⟩))] hF (by kernel_rfl) fun a hF => ?_
     refine wl (eL 29 5 4 (v := .slice A4 lm.length cm) hF hM (by kernel_rfl) rfl rfl (by kernel_rfl) (by kernel_rfl) fun a w hF hM => ?_)
     refine sB 2 [(30, .int .i64 (lm.length : Int)), (31, .pointer (some ⟨bb1, 1, none⟩))] hF (by kernel_rfl) fun a hF => ?_
     refine wl (eL 32 5 1 (v := .slice A2 lq.length cq_) hF hM (by kernel_rfl) rfl rfl (by kernel_rfl) (by kernel_rfl) fun a w hF hM => ?_)
     refine sB 3 [(33, .int .i64 (lq.length : Int)), (34, .bool (!decide ((lm.length : Int) = (lq.length : Int)))), (35, .bool (!decide ((lm.length : Int) = (lq.length : Int))))] hF (by kernel_rfl) fun a hF => ?_
     refine wpList_nil ?_
     refine hK6 _ _ ?_
     by_cases hz5 : (lm.length : Int) = (lq.length : Int)
     ·skip
      replace hF := hF.c hF (i := 34) (v := .bool false) rfl (nT hz5)
      replace hF := hF.c hF (i := 35) (v := .bool false) rfl (nT hz5)
      refine cF hF (by kernel_rfl) (by kernel_rfl) ?_
      refine wp_skip ?_
      refine hK5 _ _ ?_
      refine wp_seq_k fun K7 hK7 => ?_
      refine wp_seq_k fun K8 hK8 => ?_
      refine wp_region_lit ?_
      refine sB 1 [(36, .pointer (some ⟨bb1, 0, none⟩))] hF (by kernel_rfl) fun a hF => ?_
      refine wl (eL 37 5 0 (v := .slice A la.length ca) hF hM (by kernel_rfl) rfl rfl (by kernel_rfl) (by kernel_rfl) fun a w hF hM => ?_)
      refine sB 2 [(38, .int .i64 (la.length : Int)), (39, .int .i64 0)] hF (by kernel_rfl) fun a hF => ?_
      refine wpList_nil ?_
      refine hK8 _ _ ?_
      refine wp_block ?_
      refine wp_loop_k (G := Nat) (fun gg a w => Fr 93 [(39, some (.int .i64 (gg : Int))), (1, some (.pointer (some ⟨bb1, 0, none⟩))), (37, some (.slice A la.length ca)), (38, some (.int .i64 (la.length : Int)))] a ∧ Mem w0.heap.size w0 [(1, some (.ro A (flatR la))), (2, some (.ro A2 (flatR lq))), (3, some (.ro A3 (ls.map (Value.int .i64)))), (4, some (.ro A4 (flatR lm))), (5, some (.row bb1 27 #[.slice A la.length ca, .slice A2 lq.length cq_, .int .i64 now, .slice A3 ls.length cs, .slice A4 lm.length cm]))] w ∧ ((gg : Int) ≤ (la.length : Int)) ∧ (∀ j, j < gg → okL la ls j)) (fun gg => la.length - gg) (0) ?_ ?_
      ·refine ⟨(((((Fr.nil hF).c hF (i := 38) rfl rfl).c hF (i := 37) rfl rfl).c hF (i := 1) rfl rfl).c hF (i := 39) rfl (vi (show (0 : Int) = (0 : Int) from by omega))), (hM.sub (((((Sub.nil.c (k := 5) rfl rfl).c (k := 4) rfl rfl).c (k := 3) rfl rfl).c (k := 2) rfl rfl).c (k := 1) rfl rfl)), (show (0 : Int) ≤ (la.length : Int) from by omega), (show ∀ j, j < 0 → okL la ls j from by exact fun j hj => by omega)⟩
      ·intro gg a w hI
       intro K9 hK9
       obtain ⟨k, rfl⟩ : ∃ x, x = gg := ⟨_, rfl⟩
       try dsimp only at hI hK9
       obtain ⟨hF, hM, hz6, hz7⟩ := hI
       refine wp_seq_k fun K10 hK10 => ?_
       refine wp_region_lit ?_
       refine sB 1 [(40, .bool (decide ((k : Int) < (la.length : Int))))] hF (by kernel_rfl) fun a hF => ?_
       refine wpList_nil ?_
       refine hK10 _ _ ?_
       refine wp_seq_k fun K11 hK11 => ?_
       by_cases hz8 : (k : Int) < (la.length : Int)
       ·skip
        replace hF := hF.c hF (i := 40) (v := .bool true) rfl (bT hz8)
        refine cT hF (by kernel_rfl) (by kernel_rfl) ?_
        refine wp_skip ?_
        refine hK11 _ _ ?_
        refine wp_seq_k fun K12 hK12 => ?_
        refine wp_block ?_
        refine wp_seq_k fun K13 hK13 => ?_
        refine wp_region_lit ?_
        refine sB 1 [(41, .int .i64 (k : Int))] hF (by kernel_rfl) fun a hF => ?_
        refine wl (eM 42 (v := .pointer (some (ea A (k * 7)))) hF hM (by kernel_rfl) (yld_ix (kd := .i64) (e := 57) (len := la.length) (cap := ca) (i := (k : Int)) (size := 7) (A := A) hF rfl (by kernel_rfl) (by kernel_rfl) (by kernel_rfl) (by kernel_rfl) (by kernel_rfl) (roK 1 rfl) (by omega) (by omega) (by rw [flatR_length hW]; (try simp only [List.length_map, List.length_append, List.length_replicate, List.length_set, List.length_cons, List.length_nil, flat2_length, List.length_take]); omega)) fun a w hF hM => ?_)
        refine wl (eM 43 (v := .agg #[.int .i64 (rc la k 0), .int .i64 (rc la k 1), .int .i64 (rc la k 2), .int .i64 (rc la k 3), .int .i64 (rc la k 4), .int .i64 (rc la k 5), .int .i64 (rc la k 6)]) hF hM (by kernel_rfl) (yld_roM (A := A) (j := k * 7) (us := [.int .i64 (rc la k 0), .int .i64 (rc la k 1), .int .i64 (rc la k 2), .int .i64 (rc la k 3), .int .i64 (rc la k 4), .int .i64 (rc la k 5), .int .i64 (rc la k 6)]) hF rfl (by kernel_rfl) (by kernel_rfl) (roK 1 rfl) (by kernel_rfl) rfl (rc_sub (k := k) (f := 0) (m := 7) hW (by omega) (by decide) rfl)) fun a w hF hM => ?_)
        refine wl (eN 4 6 (t := 57) (fun b => .pointer (some ⟨b, 0, none⟩)) #[.int .i64 0, .int .i64 0, .int .i64 0, .int .i64 0, .int .i64 0, .int .i64 0, .int .i64 0] hF hM (by kernel_rfl) (fun _ => by kernel_rfl) fun bb2 a w hF hM => ?_)
        refine sB 1 [(3, .int .i64 (k : Int))] hF (by kernel_rfl) fun a hF => ?_
        refine wl (sStore (i := 6) (off := 0) (cs' := #[.int .i64 (rc la k 0), .int .i64 (rc la k 1), .int .i64 (rc la k 2), .int .i64 (rc la k 3), .int .i64 (rc la k 4), .int .i64 (rc la k 5), .int .i64 (rc la k 6)]) hF hM (by kernel_rfl) rfl rfl (by kernel_rfl) (by kernel_rfl) rfl (by kernel_rfl) fun w hM => ?_)
        refine wpList_nil ?_
        refine hK13 _ _ ?_
        refine wp_seq_k fun K14 hK14 => ?_
        by_cases hz9 : nt ls k < -1
        ·skip
         refine wp_region_lit ?_
         refine sB 1 [(44, .pointer (some ⟨bb1, 3, none⟩))] hF (by kernel_rfl) fun a hF => ?_
         refine wl (eL 45 5 3 (v := .slice A3 ls.length cs) hF hM (by kernel_rfl) rfl rfl (by kernel_rfl) (by kernel_rfl) fun a w hF hM => ?_)
         refine sB 1 [(46, .int .i64 (k : Int))] hF (by kernel_rfl) fun a hF => ?_
         refine wl (eM 47 (v := .pointer (some (ea A3 (k)))) hF hM (by kernel_rfl) (yld_ix (kd := .i64) (e := 3) (len := ls.length) (cap := cs) (i := (k : Int)) (size := 1) (A := A3) hF rfl (by kernel_rfl) (by kernel_rfl) (by kernel_rfl) (by kernel_rfl) (by kernel_rfl) (roK 3 rfl) (by omega) (by omega) (by rw [List.length_map]; omega)) fun a w hF hM => ?_)
         refine wl (eM 48 (v := .int .i64 (nt ls k)) hF hM (by kernel_rfl) (yld_ro1 (A := A3) (j := k) hF rfl (by kernel_rfl) (by kernel_rfl) (roK 3 rfl) (by kernel_rfl) (nt_at (by omega))) fun a w hF hM => ?_)
         refine wl (eP 49 (v0 := .bool (decide (nt ls k < -1))) (v := .bool true) hF (by kernel_rfl) (fun _ => by kernel_rfl) (bT hz9) fun a hF => ?_)
         refine sB 13 [(50, .bool true), (51, undef), (52, undef), (53, undef), (54, undef), (55, undef), (56, undef), (57, undef), (58, undef), (59, undef), (60, undef), (61, undef), (62, .bool true)] hF (by kernel_rfl) fun a hF => ?_
         refine wpList_nil ?_
         refine hK14 _ _ ?_
         refine cT hF (by kernel_rfl) (by kernel_rfl) ?_
         refine wp_seq_k fun K15 hK15 => ?_
         refine wp_region_lit ?_
         refine sB 1 [(2, .int .i64 430)] hF (by kernel_rfl) fun a hF => ?_
         refine wpList_nil ?_
         refine hK15 _ _ ?_
         refine wp_ret ?_
         refine hR0 _ _ ?_
         refine ret_of hF hM (.tmp rfl (.nil)) ?_
         exact ⟨ret_int (fl_430 (fun z => by first | (have := z.2.1; have := z.2.2.1; omega) | (have z3 := z.2.2.2.1 k (by omega); unfold okL at z3; omega))), hM.bel⟩
        ·skip
         by_cases hz10 : rc la k 2 = 6
         ·skip
          refine wp_region_lit ?_
          refine sB 1 [(44, .pointer (some ⟨bb1, 3, none⟩))] hF (by kernel_rfl) fun a hF => ?_
          refine wl (eL 45 5 3 (v := .slice A3 ls.length cs) hF hM (by kernel_rfl) rfl rfl (by kernel_rfl) (by kernel_rfl) fun a w hF hM => ?_)
          refine sB 1 [(46, .int .i64 (k : Int))] hF (by kernel_rfl) fun a hF => ?_
          refine wl (eM 47 (v := .pointer (some (ea A3 (k)))) hF hM (by kernel_rfl) (yld_ix (kd := .i64) (e := 3) (len := ls.length) (cap := cs) (i := (k : Int)) (size := 1) (A := A3) hF rfl (by kernel_rfl) (by kernel_rfl) (by kernel_rfl) (by kernel_rfl) (by kernel_rfl) (roK 3 rfl) (by omega) (by omega) (by rw [List.length_map]; omega)) fun a w hF hM => ?_)
          refine wl (eM 48 (v := .int .i64 (nt ls k)) hF hM (by kernel_rfl) (yld_ro1 (A := A3) (j := k) hF rfl (by kernel_rfl) (by kernel_rfl) (roK 3 rfl) (by kernel_rfl) (nt_at (by omega))) fun a w hF hM => ?_)
          refine wl (eP 49 (v0 := .bool (decide (nt ls k < -1))) (v := .bool false) hF (by kernel_rfl) (fun _ => by kernel_rfl) (bF hz9) fun a hF => ?_)
          refine sB 2 [(50, .bool false), (51, .pointer (some ⟨bb2, 2, none⟩))] hF (by kernel_rfl) fun a hF => ?_
          refine wl (eL 52 6 2 (v := .int .i64 (rc la k 2)) hF hM (by kernel_rfl) rfl rfl (by kernel_rfl) (by kernel_rfl) fun a w hF hM => ?_)
          refine wl (eP 53 (v0 := .bool (decide (rc la k 2 = 6))) (v := .bool true) hF (by kernel_rfl) (fun _ => by kernel_rfl) (bT hz10) fun a hF => ?_)
          refine sB 2 [(54, .bool true), (55, .pointer (some ⟨bb1, 3, none⟩))] hF (by kernel_rfl) fun a hF => ?_
          refine wl (eL 56 5 3 (v := .slice A3 ls.length cs) hF hM (by kernel_rfl) rfl rfl (by kernel_rfl) (by kernel_rfl) fun a w hF hM => ?_)
          refine sB 1 [(57, .int .i64 (k : Int))] hF (by kernel_rfl) fun a hF => ?_
          refine wl (eM 58 (v := .pointer (some (ea A3 (k)))) hF hM (by kernel_rfl) (yld_ix (kd := .i64) (e := 3) (len := ls.length) (cap := cs) (i := (k : Int)) (size := 1) (A := A3) hF rfl (by kernel_rfl) (by kernel_rfl) (by kernel_rfl) (by kernel_rfl) (by kernel_rfl) (roK 3 rfl) (by omega) (by omega) (by rw [List.length_map]; omega)) fun a w hF hM => ?_)
          refine wl (eM 59 (v := .int .i64 (nt ls k)) hF hM (by kernel_rfl) (yld_ro1 (A := A3) (j := k) hF rfl (by kernel_rfl) (by kernel_rfl) (roK 3 rfl) (by kernel_rfl) (nt_at (by omega))) fun a w hF hM => ?_)
          refine sB 3 [(60, .bool (!decide (nt ls k = -1))), (61, .bool (!decide (nt ls k = -1))), (62, .bool (!decide (nt ls k = -1)))] hF (by kernel_rfl) fun a hF => ?_
          refine wpList_nil ?_
          refine hK14 _ _ ?_
          by_cases hz11 : nt ls k = -1
          ·skip
           replace hF := hF.c hF (i := 60) (v := .bool false) rfl (nT hz11)
           replace hF := hF.c hF (i := 61) (v := .bool false) rfl (nT hz11)
           replace hF := hF.c hF (i := 62) (v := .bool false) rfl (nT hz11)
           refine cF hF (by kernel_rfl) (by kernel_rfl) ?_
           refine wp_skip ?_
           refine hK12 _ _ ?_
           refine wp_region_lit ?_
           refine wl (eP 63 (v0 := .int .i64 (IntKind.i64.wrap ((k : Int) + 1))) (v := .int .i64 ((k : Int) + 1)) hF (by kernel_rfl) (fun _ => by kernel_rfl) (wi (by omega)) fun a hF => ?_)
           refine sB 1 [(39, .int .i64 ((k : Int) + 1))] hF (by kernel_rfl) fun a hF => ?_
           refine wpList_nil ?_
           refine hK9 _ _ ⟨(k + 1), ⟨(((((Fr.nil hF).c hF (i := 38) rfl rfl).c hF (i := 37) rfl rfl).c hF (i := 1) rfl rfl).c hF (i := 39) rfl (vi (show ((k : Int) + 1 : Int) = ((k + 1) : Int) from by omega))), (hM.sub (((((Sub.nil.c (k := 5) rfl rfl).c (k := 4) rfl rfl).c (k := 3) rfl rfl).c (k := 2) rfl rfl).c (k := 1) rfl rfl)), (show ((k + 1) : Int) ≤ (la.length : Int) from by omega), (show ∀ j, j < (k + 1) → okL la ls j from by exact all_next (by assumption) (by unfold okL; omega))⟩, (show la.length - (k + 1) < la.length - k from by omega)⟩
          ·skip
           replace hF := hF.c hF (i := 60) (v := .bool true) rfl (nF hz11)
           replace hF := hF.c hF (i := 61) (v := .bool true) rfl (nF hz11)
           replace hF := hF.c hF (i := 62) (v := .bool true) rfl (nF hz11)
           refine cT hF (by kernel_rfl) (by kernel_rfl) ?_
           refine wp_seq_k fun K16 hK16 => ?_
           refine wp_region_lit ?_
           refine sB 1 [(2, .int .i64 430)] hF (by kernel_rfl) fun a hF => ?_
           refine wpList_nil ?_
           refine hK16 _ _ ?_
           refine wp_ret ?_
           refine hR0 _ _ ?_
           refine ret_of hF hM (.tmp rfl (.nil)) ?_
           exact ⟨ret_int (fl_430 (fun z => by first | (have := z.2.1; have := z.2.2.1; omega) | (have z3 := z.2.2.2.1 k (by omega); unfold okL at z3; omega))), hM.bel⟩
         ·skip
          refine wp_region_lit ?_
          refine sB 1 [(44, .pointer (some ⟨bb1, 3, none⟩))] hF (by kernel_rfl) fun a hF => ?_
          refine wl (eL 45 5 3 (v := .slice A3 ls.length cs) hF hM (by kernel_rfl) rfl rfl (by kernel_rfl) (by kernel_rfl) fun a w hF hM => ?_)
          refine sB 1 [(46, .int .i64 (k : Int))] hF (by kernel_rfl) fun a hF => ?_
          refine wl (eM 47 (v := .pointer (some (ea A3 (k)))) hF hM (by kernel_rfl) (yld_ix (kd := .i64) (e := 3) (len := ls.length) (cap := cs) (i := (k : Int)) (size := 1) (A := A3) hF rfl (by kernel_rfl) (by kernel_rfl) (by kernel_rfl) (by kernel_rfl) (by kernel_rfl) (roK 3 rfl) (by omega) (by omega) (by rw [List.length_map]; omega)) fun a w hF hM => ?_)
          refine wl (eM 48 (v := .int .i64 (nt ls k)) hF hM (by kernel_rfl) (yld_ro1 (A := A3) (j := k) hF rfl (by kernel_rfl) (by kernel_rfl) (roK 3 rfl) (by kernel_rfl) (nt_at (by omega))) fun a w hF hM => ?_)
          refine wl (eP 49 (v0 := .bool (decide (nt ls k < -1))) (v := .bool false) hF (by kernel_rfl) (fun _ => by kernel_rfl) (bF hz9) fun a hF => ?_)
          refine sB 2 [(50, .bool false), (51, .pointer (some ⟨bb2, 2, none⟩))] hF (by kernel_rfl) fun a hF => ?_
          refine wl (eL 52 6 2 (v := .int .i64 (rc la k 2)) hF hM (by kernel_rfl) rfl rfl (by kernel_rfl) (by kernel_rfl) fun a w hF hM => ?_)
          refine wl (eP 53 (v0 := .bool (decide (rc la k 2 = 6))) (v := .bool false) hF (by kernel_rfl) (fun _ => by kernel_rfl) (bF hz10) fun a hF => ?_)
          refine sB 9 [(54, .bool false), (55, undef), (56, undef), (57, undef), (58, undef), (59, undef), (60, undef), (61, .bool false), (62, .bool false)] hF (by kernel_rfl) fun a hF => ?_
          refine wpList_nil ?_
          refine hK14 _ _ ?_
          refine cF hF (by kernel_rfl) (by kernel_rfl) ?_
          refine wp_skip ?_
          refine hK12 _ _ ?_
          refine wp_region_lit ?_
          refine wl (eP 63 (v0 := .int .i64 (IntKind.i64.wrap ((k : Int) + 1))) (v := .int .i64 ((k : Int) + 1)) hF (by kernel_rfl) (fun _ => by kernel_rfl) (wi (by omega)) fun a hF => ?_)
          refine sB 1 [(39, .int .i64 ((k : Int) + 1))] hF (by kernel_rfl) fun a hF => ?_
          refine wpList_nil ?_
          refine hK9 _ _ ⟨(k + 1), ⟨(((((Fr.nil hF).c hF (i := 38) rfl rfl).c hF (i := 37) rfl rfl).c hF (i := 1) rfl rfl).c hF (i := 39) rfl (vi (show ((k : Int) + 1 : Int) = ((k + 1) : Int) from by omega))), (hM.sub (((((Sub.nil.c (k := 5) rfl rfl).c (k := 4) rfl rfl).c (k := 3) rfl rfl).c (k := 2) rfl rfl).c (k := 1) rfl rfl)), (show ((k + 1) : Int) ≤ (la.length : Int) from by omega), (show ∀ j, j < (k + 1) → okL la ls j from by exact all_next (by assumption) (by unfold okL; omega))⟩, (show la.length - (k + 1) < la.length - k from by omega)⟩
       ·skip
        replace hF := hF.c hF (i := 40) (v := .bool false) rfl (bF hz8)
        refine cF hF (by kernel_rfl) (by kernel_rfl) ?_
        refine wp_exit ?_
        refine hK7 _ _ ?_
        refine wp_seq_k fun K17 hK17 => ?_
        refine wp_seq_k fun K18 hK18 => ?_
        refine wp_region_lit ?_
        refine sB 1 [(64, .pointer (some ⟨bb1, 1, none⟩))] hF (by kernel_rfl) fun a hF => ?_
        refine wl (eL 65 5 1 (v := .slice A2 lq.length cq_) hF hM (by kernel_rfl) rfl rfl (by kernel_rfl) (by kernel_rfl) fun a w hF hM => ?_)
        refine sB 2 [(66, .int .i64 (lq.length : Int)), (67, .int .i64 0)] hF (by kernel_rfl) fun a hF => ?_
        refine wpList_nil ?_
        refine hK18 _ _ ?_
        refine wp_block ?_
        refine wp_loop_k (G := Nat) (fun gg a w => Fr 93 [(67, some (.int .i64 (gg : Int))), (1, some (.pointer (some ⟨bb1, 0, none⟩))), (65, some (.slice A2 lq.length cq_)), (66, some (.int .i64 (lq.length : Int)))] a ∧ Mem w0.heap.size w0 [(1, some (.ro A (flatR la))), (2, some (.ro A2 (flatR lq))), (3, some (.ro A3 (ls.map (Value.int .i64)))), (4, some (.ro A4 (flatR lm))), (5, some (.row bb1 27 #[.slice A la.length ca, .slice A2 lq.length cq_, .int .i64 now, .slice A3 ls.length cs, .slice A4 lm.length cm]))] w ∧ ((gg : Int) ≤ (lq.length : Int)) ∧ (∀ j, j < gg → okM lq lm now j)) (fun gg => lq.length - gg) (0) ?_ ?_
        ·refine ⟨(((((Fr.nil hF).c hF (i := 66) rfl rfl).c hF (i := 65) rfl rfl).c hF (i := 1) rfl rfl).c hF (i := 67) rfl (vi (show (0 : Int) = (0 : Int) from by omega))), (hM.sub (((((Sub.nil.c (k := 5) rfl rfl).c (k := 4) rfl rfl).c (k := 3) rfl rfl).c (k := 2) rfl rfl).c (k := 1) rfl rfl)), (show (0 : Int) ≤ (lq.length : Int) from by omega), (show ∀ j, j < 0 → okM lq lm now j from by exact fun j hj => by omega)⟩
        ·intro gg a w hI
         intro K19 hK19
         obtain ⟨q, rfl⟩ : ∃ x, x = gg := ⟨_, rfl⟩
         try dsimp only at hI hK19
         obtain ⟨hF, hM, hz12, hz13⟩ := hI
         refine wp_seq_k fun K20 hK20 => ?_
         refine wp_region_lit ?_
         refine sB 1 [(68, .bool (decide ((q : Int) < (lq.length : Int))))] hF (by kernel_rfl) fun a hF => ?_
         refine wpList_nil ?_
         refine hK20 _ _ ?_
         refine wp_seq_k fun K21 hK21 => ?_
         by_cases hz14 : (q : Int) < (lq.length : Int)
         ·skip
          replace hF := hF.c hF (i := 68) (v := .bool true) rfl (bT hz14)
          refine cT hF (by kernel_rfl) (by kernel_rfl) ?_
          refine wp_skip ?_
          refine hK21 _ _ ?_
          refine wp_seq_k fun K22 hK22 => ?_
          refine wp_block ?_
          refine wp_seq_k fun K23 hK23 => ?_
          refine wp_region_lit ?_
          refine sB 1 [(69, .int .i64 (q : Int))] hF (by kernel_rfl) fun a hF => ?_
          refine wl (eM 70 (v := .pointer (some (ea A2 (q * 5)))) hF hM (by kernel_rfl) (yld_ix (kd := .i64) (e := 69) (len := lq.length) (cap := cq_) (i := (q : Int)) (size := 5) (A := A2) hF rfl (by kernel_rfl) (by kernel_rfl) (by kernel_rfl) (by kernel_rfl) (by kernel_rfl) (roK 2 rfl) (by omega) (by omega) (by rw [flatR_length hW2]; (try simp only [List.length_map, List.length_append, List.length_replicate, List.length_set, List.length_cons, List.length_nil, flat2_length, List.length_take]); omega)) fun a w hF hM => ?_)
          refine wl (eM 71 (v := .agg #[.int .i64 (rc lq q 0), .int .i64 (rc lq q 1), .int .i64 (rc lq q 2), .int .i64 (rc lq q 3), .int .i64 (rc lq q 4)]) hF hM (by kernel_rfl) (yld_roM (A := A2) (j := q * 5) (us := [.int .i64 (rc lq q 0), .int .i64 (rc lq q 1), .int .i64 (rc lq q 2), .int .i64 (rc lq q 3), .int .i64 (rc lq q 4)]) hF rfl (by kernel_rfl) (by kernel_rfl) (roK 2 rfl) (by kernel_rfl) rfl (rc_sub (k := q) (f := 0) (m := 5) hW2 (by omega) (by decide) rfl)) fun a w hF hM => ?_)
          refine wl (eN 6 7 (t := 69) (fun b => .pointer (some ⟨b, 0, none⟩)) #[.int .i64 0, .int .i64 0, .int .i64 0, .int .i64 0, .int .i64 0] hF hM (by kernel_rfl) (fun _ => by kernel_rfl) fun bb3 a w hF hM => ?_)
          refine sB 1 [(5, .int .i64 (q : Int))] hF (by kernel_rfl) fun a hF => ?_
          refine wl (sStore (i := 7) (off := 0) (cs' := #[.int .i64 (rc lq q 0), .int .i64 (rc lq q 1), .int .i64 (rc lq q 2), .int .i64 (rc lq q 3), .int .i64 (rc lq q 4)]) hF hM (by kernel_rfl) rfl rfl (by kernel_rfl) (by kernel_rfl) rfl (by kernel_rfl) fun w hM => ?_)
          refine wpList_nil ?_
          refine hK23 _ _ ?_
          refine wp_seq_k fun K24 hK24 => ?_
          refine wp_region_lit ?_
          refine sB 1 [(72, .pointer (some ⟨bb1, 4, none⟩))] hF (by kernel_rfl) fun a hF => ?_
          refine wl (eL 73 5 4 (v := .slice A4 lm.length cm) hF hM (by kernel_rfl) rfl rfl (by kernel_rfl) (by kernel_rfl) fun a w hF hM => ?_)
          refine sB 1 [(74, .int .i64 (q : Int))] hF (by kernel_rfl) fun a hF => ?_
          refine wl (eM 75 (v := .pointer (some (ea A4 (q * 3)))) hF hM (by kernel_rfl) (yld_ix (kd := .i64) (e := 80) (len := lm.length) (cap := cm) (i := (q : Int)) (size := 3) (A := A4) hF rfl (by kernel_rfl) (by kernel_rfl) (by kernel_rfl) (by kernel_rfl) (by kernel_rfl) (roK 4 rfl) (by omega) (by omega) (by rw [flatR_length hW4]; (try simp only [List.length_map, List.length_append, List.length_replicate, List.length_set, List.length_cons, List.length_nil, flat2_length, List.length_take]); omega)) fun a w hF hM => ?_)
          refine wl (eM 76 (v := .agg #[.int .i64 (rc lm q 0), .int .i64 (rc lm q 1), .int .i64 (rc lm q 2)]) hF hM (by kernel_rfl) (yld_roM (A := A4) (j := q * 3) (us := [.int .i64 (rc lm q 0), .int .i64 (rc lm q 1), .int .i64 (rc lm q 2)]) hF rfl (by kernel_rfl) (by kernel_rfl) (roK 4 rfl) (by kernel_rfl) rfl (rc_sub (k := q) (f := 0) (m := 3) hW4 (by omega) (by decide) rfl)) fun a w hF hM => ?_)
          refine wl (eN 7 8 (t := 80) (fun b => .pointer (some ⟨b, 0, none⟩)) #[.int .i64 0, .int .i64 0, .int .i64 0] hF hM (by kernel_rfl) (fun _ => by kernel_rfl) fun bb4 a w hF hM => ?_)
          refine wl (sStore (i := 8) (off := 0) (cs' := #[.int .i64 (rc lm q 0), .int .i64 (rc lm q 1), .int .i64 (rc lm q 2)]) hF hM (by kernel_rfl) rfl rfl (by kernel_rfl) (by kernel_rfl) rfl (by kernel_rfl) fun w hM => ?_)
          refine wpList_nil ?_
          refine hK24 _ _ ?_
          refine wp_seq_k fun K25 hK25 => ?_
          by_cases hz15 : mtE (rc lq q 1) (rc lq q 2) (rc lq q 3) (rc lq q 4) (rc lm q 0) (rc lm q 1) (rc lm q 2) = 0
          ·skip
           have hz16 := mtE_ok hz15
           have hz17 := hz16.1
           have hz18 := newE_ok hz17
           refine wp_region_lit ?_
           refine sB 1 [(77, .pointer (some ⟨bb3, 1, none⟩))] hF (by kernel_rfl) fun a hF => ?_
           refine wl (eL 78 7 1 (v := .agg #[.int .i64 (rc lq q 1), .int .i64 (rc lq q 2)]) hF hM (by kernel_rfl) rfl rfl (by kernel_rfl) (by kernel_rfl) fun a w hF hM => ?_)
           refine sB 1 [(79, .pointer (some ⟨bb3, 3, none⟩))] hF (by kernel_rfl) fun a hF => ?_
           refine wl (eL 80 7 3 (v := .agg #[.int .i64 (rc lq q 3), .int .i64 (rc lq q 4)]) hF hM (by kernel_rfl) rfl rfl (by kernel_rfl) (by kernel_rfl) fun a w hF hM => ?_)
           refine wl (eL 81 8 0 (v := .agg #[.int .i64 (rc lm q 0), .int .i64 (rc lm q 1), .int .i64 (rc lm q 2)]) hF hM (by kernel_rfl) rfl rfl (by kernel_rfl) (by kernel_rfl) fun a w hF hM => ?_)
           refine wl (eM 82 (v := .int .i64 (mtE (rc lq q 1) (rc lq q 2) (rc lq q 3) (rc lq q 4) (rc lm q 0) (rc lm q 1) (rc lm q 2))) hF hM (by kernel_rfl) (yld_call (f := 32) (args := #[.agg #[.int .i64 (rc lq q 1), .int .i64 (rc lq q 2)], .agg #[.int .i64 (rc lq q 3), .int .i64 (rc lq q 4)], .agg #[.int .i64 (rc lm q 0), .int .i64 (rc lm q 1), .int .i64 (rc lm q 2)]]) hF (by kernel_rfl) (fun _ => by kernel_rfl) (fun w hM => meterCheck_w (rc lq q 1) (rc lq q 2) (rc lq q 3) (rc lq q 4) (rc lm q 0) (rc lm q 1) (rc lm q 2) w)) fun a w hF hM => ?_)
           refine wl (eP 83 (v0 := .bool (!decide (mtE (rc lq q 1) (rc lq q 2) (rc lq q 3) (rc lq q 4) (rc lm q 0) (rc lm q 1) (rc lm q 2) = 0))) (v := .bool false) hF (by kernel_rfl) (fun _ => by kernel_rfl) (nT hz15) fun a hF => ?_)
           refine sB 2 [(84, .bool false), (85, .pointer (some ⟨bb4, 0, none⟩))] hF (by kernel_rfl) fun a hF => ?_
           refine wl (eL 86 8 0 (v := .int .i64 (rc lm q 0)) hF hM (by kernel_rfl) rfl rfl (by kernel_rfl) (by kernel_rfl) fun a w hF hM => ?_)
           refine sB 1 [(87, .pointer (some ⟨bb1, 2, none⟩))] hF (by kernel_rfl) fun a hF => ?_
           refine wl (eL 88 5 2 (v := .int .i64 now) hF hM (by kernel_rfl) rfl rfl (by kernel_rfl) (by kernel_rfl) fun a w hF hM => ?_)
           refine wl (eP 89 (v0 := .int .i64 (IntKind.i64.wrap (now + 1000))) (v := .int .i64 (now + 1000)) hF (by kernel_rfl) (fun _ => by kernel_rfl) (wi (by omega)) fun a hF => ?_)
           refine sB 2 [(90, .bool (decide (now + 1000 < rc lm q 0))), (91, .bool (decide (now + 1000 < rc lm q 0)))] hF (by kernel_rfl) fun a hF => ?_
           refine wpList_nil ?_
           refine hK25 _ _ ?_
           by_cases hz19 : now + 1000 < rc lm q 0
           ·skip
            replace hF := hF.c hF (i := 90) (v := .bool true) rfl (bT hz19)
            replace hF := hF.c hF (i := 91) (v := .bool true) rfl (bT hz19)
            refine cT hF (by kernel_rfl) (by kernel_rfl) ?_
            refine wp_seq_k fun K26 hK26 => ?_
            refine wp_region_lit ?_
            refine sB 1 [(2, .int .i64 430)] hF (by kernel_rfl) fun a hF => ?_
            refine wpList_nil ?_
            refine hK26 _ _ ?_
            refine wp_ret ?_
            refine hR0 _ _ ?_
            refine ret_of hF hM (.tmp rfl (.nil)) ?_
            exact ⟨ret_int (fl_430 (fun z => by have z4 := z.2.2.2.2 q (by omega); unfold okM at z4; first | omega | exact absurd z4.1 (by assumption))), hM.bel⟩
           ·skip
            replace hF := hF.c hF (i := 90) (v := .bool false) rfl (bF hz19)
            replace hF := hF.c hF (i := 91) (v := .bool false) rfl (bF hz19)
            refine cF hF (by kernel_rfl) (by kernel_rfl) ?_
            refine wp_skip ?_
            refine hK22 _ _ ?_
            refine wp_region_lit ?_
            refine wl (eP 92 (v0 := .int .i64 (IntKind.i64.wrap ((q : Int) + 1))) (v := .int .i64 ((q : Int) + 1)) hF (by kernel_rfl) (fun _ => by kernel_rfl) (wi (by omega)) fun a hF => ?_)
            refine sB 1 [(67, .int .i64 ((q : Int) + 1))] hF (by kernel_rfl) fun a hF => ?_
            refine wpList_nil ?_
            refine hK19 _ _ ⟨(q + 1), ⟨(((((Fr.nil hF).c hF (i := 66) rfl rfl).c hF (i := 65) rfl rfl).c hF (i := 1) rfl rfl).c hF (i := 67) rfl (vi (show ((q : Int) + 1 : Int) = ((q + 1) : Int) from by omega))), (hM.sub (((((Sub.nil.c (k := 5) rfl rfl).c (k := 4) rfl rfl).c (k := 3) rfl rfl).c (k := 2) rfl rfl).c (k := 1) rfl rfl)), (show ((q + 1) : Int) ≤ (lq.length : Int) from by omega), (show ∀ j, j < (q + 1) → okM lq lm now j from by exact all_next (by assumption) ⟨by assumption, by omega⟩)⟩, (show lq.length - (q + 1) < lq.length - q from by omega)⟩
          ·skip
           refine wp_region_lit ?_
           refine sB 1 [(77, .pointer (some ⟨bb3, 1, none⟩))] hF (by kernel_rfl) fun a hF => ?_
           refine wl (eL 78 7 1 (v := .agg #[.int .i64 (rc lq q 1), .int .i64 (rc lq q 2)]) hF hM (by kernel_rfl) rfl rfl (by kernel_rfl) (by kernel_rfl) fun a w hF hM => ?_)
           refine sB 1 [(79, .pointer (some ⟨bb3, 3, none⟩))] hF (by kernel_rfl) fun a hF => ?_
           refine wl (eL 80 7 3 (v := .agg #[.int .i64 (rc lq q 3), .int .i64 (rc lq q 4)]) hF hM (by kernel_rfl) rfl rfl (by kernel_rfl) (by kernel_rfl) fun a w hF hM => ?_)
           refine wl (eL 81 8 0 (v := .agg #[.int .i64 (rc lm q 0), .int .i64 (rc lm q 1), .int .i64 (rc lm q 2)]) hF hM (by kernel_rfl) rfl rfl (by kernel_rfl) (by kernel_rfl) fun a w hF hM => ?_)
           refine wl (eM 82 (v := .int .i64 (mtE (rc lq q 1) (rc lq q 2) (rc lq q 3) (rc lq q 4) (rc lm q 0) (rc lm q 1) (rc lm q 2))) hF hM (by kernel_rfl) (yld_call (f := 32) (args := #[.agg #[.int .i64 (rc lq q 1), .int .i64 (rc lq q 2)], .agg #[.int .i64 (rc lq q 3), .int .i64 (rc lq q 4)], .agg #[.int .i64 (rc lm q 0), .int .i64 (rc lm q 1), .int .i64 (rc lm q 2)]]) hF (by kernel_rfl) (fun _ => by kernel_rfl) (fun w hM => meterCheck_w (rc lq q 1) (rc lq q 2) (rc lq q 3) (rc lq q 4) (rc lm q 0) (rc lm q 1) (rc lm q 2) w)) fun a w hF hM => ?_)
           refine wl (eP 83 (v0 := .bool (!decide (mtE (rc lq q 1) (rc lq q 2) (rc lq q 3) (rc lq q 4) (rc lm q 0) (rc lm q 1) (rc lm q 2) = 0))) (v := .bool true) hF (by kernel_rfl) (fun _ => by kernel_rfl) (nF hz15) fun a hF => ?_)
           refine sB 8 [(84, .bool true), (85, undef), (86, undef), (87, undef), (88, undef), (89, undef), (90, undef), (91, .bool true)] hF (by kernel_rfl) fun a hF => ?_
           refine wpList_nil ?_
           refine hK25 _ _ ?_
           refine cT hF (by kernel_rfl) (by kernel_rfl) ?_
           refine wp_seq_k fun K27 hK27 => ?_
           refine wp_region_lit ?_
           refine sB 1 [(2, .int .i64 430)] hF (by kernel_rfl) fun a hF => ?_
           refine wpList_nil ?_
           refine hK27 _ _ ?_
           refine wp_ret ?_
           refine hR0 _ _ ?_
           refine ret_of hF hM (.tmp rfl (.nil)) ?_
           exact ⟨ret_int (fl_430 (fun z => by have z4 := z.2.2.2.2 q (by omega); unfold okM at z4; first | omega | exact absurd z4.1 (by assumption))), hM.bel⟩
         ·skip
          replace hF := hF.c hF (i := 68) (v := .bool false) rfl (bF hz14)
          refine cF hF (by kernel_rfl) (by kernel_rfl) ?_
          refine wp_exit ?_
          refine hK17 _ _ ?_
          refine wp_seq_k fun K28 hK28 => ?_
          refine wp_region_lit ?_
          refine sB 1 [(2, .int .i64 0)] hF (by kernel_rfl) fun a hF => ?_
          refine wpList_nil ?_
          refine hK28 _ _ ?_
          refine wp_ret ?_
          refine hR0 _ _ ?_
          refine ret_of hF hM (.tmp rfl (.nil)) ?_
          exact ⟨ret_int (fl_0 ⟨hz1, by omega, by omega, fun j hj => ‹∀ j, j < k → okL la ls j› j (by omega), fun j hj => ‹∀ j, j < q → okM lq lm now j› j (by omega)⟩), hM.bel⟩
     ·skip
      replace hF := hF.c hF (i := 34) (v := .bool true) rfl (nF hz5)
      replace hF := hF.c hF (i := 35) (v := .bool true) rfl (nF hz5)
      refine cT hF (by kernel_rfl) (by kernel_rfl) ?_
      refine wp_seq_k fun K29 hK29 => ?_
      refine wp_region_lit ?_
      refine sB 1 [(2, .int .i64 430)] hF (by kernel_rfl) fun a hF => ?_
      refine wpList_nil ?_
      refine hK29 _ _ ?_
      refine wp_ret ?_
      refine hR0 _ _ ?_
      refine ret_of hF hM (.tmp rfl (.nil)) ?_
      exact ⟨ret_int (fl_430 (fun z => by first | (have := z.2.1; have := z.2.2.1; omega) | (have z3 := z.2.2.2.1 k (by omega); unfold okL at z3; omega))), hM.bel⟩
    ·skip
     have hli := li_le hz1
     refine wp_region_lit ?_
     refine sB 1 [(20, .pointer (some ⟨bb1, 3, none⟩))] hF (by kernel_rfl) fun a hF => ?_
     refine wl (eL 21 5 3 (v := .slice A3 ls.length cs) hF hM (by kernel_rfl) rfl rfl (by kernel_rfl) (by kernel_rfl) fun a w hF hM => ?_)
     refine sB 2 [(22, .int .i64 (ls.length : Int)), (23, .pointer (some ⟨bb1, 0, none⟩))] hF (by kernel_rfl) fun a hF => ?_
     refine wl (eL 24 5 0 (v := .slice A la.length ca) hF hM (by kernel_rfl) rfl rfl (by kernel_rfl) (by kernel_rfl) fun a w hF hM => ?_)
     refine sB 1 [(25, .int .i64 (la.length : Int))] hF (by kernel_rfl) fun a hF => ?_
     refine wl (eP 26 (v0 := .bool (!decide ((ls.length : Int) = (la.length : Int)))) (v := .bool true) hF (by kernel_rfl) (fun _ => by kernel_rfl) (nF hz4) fun a hF => ?_)
     refine sB 9 [(27, .bool true), (28, undef), (29, undef), (30, undef), (31, undef), (32, undef), (33, undef), (34, undef), (35, .bool true)] hF (by kernel_rfl) fun a hF => ?_
     refine wpList_nil ?_
     refine hK6 _ _ ?_
     refine cT hF (by kernel_rfl) (by kernel_rfl) ?_
     refine wp_seq_k fun K30 hK30 => ?_
     refine wp_region_lit ?_
     refine sB 1 [(2, .int .i64 430)] hF (by kernel_rfl) fun a hF => ?_
     refine wpList_nil ?_
     refine hK30 _ _ ?_
     refine wp_ret ?_
     refine hR0 _ _ ?_
     refine ret_of hF hM (.tmp rfl (.nil)) ?_
     exact ⟨ret_int (fl_430 (fun z => by first | (have := z.2.1; have := z.2.2.1; omega) | (have z3 := z.2.2.2.1 k (by omega); unfold okL at z3; omega))), hM.bel⟩
   ·skip
    refine wp_region_lit ?_
    refine sB 1 [(8, .pointer (some ⟨bb1, 0, none⟩))] hF (by kernel_rfl) fun a hF => ?_
    refine wl (eL 9 5 0 (v := .slice A la.length ca) hF hM (by kernel_rfl) rfl rfl (by kernel_rfl) (by kernel_rfl) fun a w hF hM => ?_)
    refine sB 1 [(10, .pointer (some ⟨bb1, 1, none⟩))] hF (by kernel_rfl) fun a hF => ?_
    refine wl (eL 11 5 1 (v := .slice A2 lq.length cq_) hF hM (by kernel_rfl) rfl rfl (by kernel_rfl) (by kernel_rfl) fun a w hF hM => ?_)
    refine wl (eM 12 (v := .bool true) hF hM (by kernel_rfl) (Yld.to (yld_call (f := 30) (args := #[.slice A la.length ca, .slice A2 lq.length cq_]) hF (by kernel_rfl) (fun _ => by kernel_rfl) (fun w hM => listed_w A la _ A2 lq _ w (hM.ok 1 _ rfl) hW (hM.ok 2 _ rfl) hW2)) (congrArg Value.bool hz1)) fun a w hF hM => ?_)
    refine sB 3 [(13, .bool false), (14, .bool false), (15, .pointer (some ⟨bb1, 2, none⟩))] hF (by kernel_rfl) fun a hF => ?_
    refine wl (eL 16 5 2 (v := .int .i64 now) hF hM (by kernel_rfl) rfl rfl (by kernel_rfl) (by kernel_rfl) fun a w hF hM => ?_)
    refine wl (eM 17 (v := .bool false) hF hM (by kernel_rfl) (yld_call (f := 31) (args := #[.int .i64 now, .int .i64 (-1000), .int .i64 549755813888]) hF (by kernel_rfl) (fun _ => by kernel_rfl) (fun w hM => fiw_no now (-1000) 549755813888 w (.inr hz3))) fun a w hF hM => ?_)
    refine sB 2 [(18, .bool true), (19, .bool true)] hF (by kernel_rfl) fun a hF => ?_
    refine wpList_nil ?_
    refine hK3 _ _ ?_
    refine cT hF (by kernel_rfl) (by kernel_rfl) ?_
    refine wp_seq_k fun K31 hK31 => ?_
    refine wp_region_lit ?_
    refine sB 1 [(2, .int .i64 430)] hF (by kernel_rfl) fun a hF => ?_
    refine wpList_nil ?_
    refine hK31 _ _ ?_
    refine wp_ret ?_
    refine hR0 _ _ ?_
    refine ret_of hF hM (.tmp rfl (.nil)) ?_
    exact ⟨ret_int (fl_430 (fun z => by first | (have := z.2.1; have := z.2.2.1; omega) | (have z3 := z.2.2.2.1 k (by omega); unfold okL at z3; omega))), hM.bel⟩
  ·skip
   refine wp_region_lit ?_
   refine sB 1 [(8, .pointer (some ⟨bb1, 0, none⟩))] hF (by kernel_rfl) fun a hF => ?_
   refine wl (eL 9 5 0 (v := .slice A la.length ca) hF hM (by kernel_rfl) rfl rfl (by kernel_rfl) (by kernel_rfl) fun a w hF hM => ?_)
   refine sB 1 [(10, .pointer (some ⟨bb1, 1, none⟩))] hF (by kernel_rfl) fun a hF => ?_
   refine wl (eL 11 5 1 (v := .slice A2 lq.length cq_) hF hM (by kernel_rfl) rfl rfl (by kernel_rfl) (by kernel_rfl) fun a w hF hM => ?_)
   refine wl (eM 12 (v := .bool true) hF hM (by kernel_rfl) (Yld.to (yld_call (f := 30) (args := #[.slice A la.length ca, .slice A2 lq.length cq_]) hF (by kernel_rfl) (fun _ => by kernel_rfl) (fun w hM => listed_w A la _ A2 lq _ w (hM.ok 1 _ rfl) hW (hM.ok 2 _ rfl) hW2)) (congrArg Value.bool hz1)) fun a w hF hM => ?_)
   refine sB 3 [(13, .bool false), (14, .bool false), (15, .pointer (some ⟨bb1, 2, none⟩))] hF (by kernel_rfl) fun a hF => ?_
   refine wl (eL 16 5 2 (v := .int .i64 now) hF hM (by kernel_rfl) rfl rfl (by kernel_rfl) (by kernel_rfl) fun a w hF hM => ?_)
   refine wl (eM 17 (v := .bool false) hF hM (by kernel_rfl) (yld_call (f := 31) (args := #[.int .i64 now, .int .i64 (-1000), .int .i64 549755813888]) hF (by kernel_rfl) (fun _ => by kernel_rfl) (fun w hM => fiw_no now (-1000) 549755813888 w (.inl hz2))) fun a w hF hM => ?_)
   refine sB 2 [(18, .bool true), (19, .bool true)] hF (by kernel_rfl) fun a hF => ?_
   refine wpList_nil ?_
   refine hK3 _ _ ?_
   refine cT hF (by kernel_rfl) (by kernel_rfl) ?_
   refine wp_seq_k fun K32 hK32 => ?_
   refine wp_region_lit ?_
   refine sB 1 [(2, .int .i64 430)] hF (by kernel_rfl) fun a hF => ?_
   refine wpList_nil ?_
   refine hK32 _ _ ?_
   refine wp_ret ?_
   refine hR0 _ _ ?_
   refine ret_of hF hM (.tmp rfl (.nil)) ?_
   exact ⟨ret_int (fl_430 (fun z => by first | (have := z.2.1; have := z.2.2.1; omega) | (have z3 := z.2.2.2.1 k (by omega); unfold okL at z3; omega))), hM.bel⟩

end Go.Proofs.Ytogeficooemngaa
