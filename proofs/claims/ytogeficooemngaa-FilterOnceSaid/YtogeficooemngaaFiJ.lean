/-
  The reference Same.
-/
import Derived.Test.YtogeficooemngaaFiH
import Derived.Test.YtogeficooemngaaRec2
import Derived.Test.YtogeficooemngaaEq2
namespace Go.Proofs.Ytogeficooemngaa
open Go.RowKit
set_option linter.unusedVariables false
set_option linter.unusedSimpArgs false

def sameF (la lq : List (List Int)) (now : Int) (ls : List Int) (lm ka kq : List (List Int)) (know : Int) (ks : List Int) (km : List (List Int)) : Bool := decide (la = ka ∧ lq = kq ∧ now = know ∧ ls = ks ∧ lm = km)
theorem rec_at {n k : Nat} {l : List (List Int)} (h : WR n l) (hk : k < l.length) : l[k]? = some ((List.range n).map (rc l k)) := by
  rw [List.getElem?_eq_getElem hk]
  congr 1
  have hx := h l[k] (List.getElem_mem hk)
  apply List.ext_getElem
  · simp [hx]
  · intro i h1 h2
    simp [rc, hk, List.getD_eq_getElem?_getD, h1]
theorem rec_eq {n k : Nat} {l m : List (List Int)} (h : WR n l) (h' : WR n m) (hk : k < l.length) (hm : k < m.length) (e : (List.range n).map (rc l k) = (List.range n).map (rc m k)) : l[k]? = m[k]? := by rw [rec_at h hk, rec_at h' hm, e]
theorem all_eq {α : Type} {l m : List α} (hl : l.length = m.length) (h : ∀ j, j < l.length → l[j]? = m[j]?) : l = m := by
  apply List.ext_getElem?
  intro i
  by_cases hi : i < l.length
  · exact h i hi
  · rw [List.getElem?_eq_none (by omega), List.getElem?_eq_none (by omega)]
theorem nt_eq {l m : List Int} {k : Nat} (hk : k < l.length) (hm : k < m.length) (e : nt l k = nt m k) : l[k]? = m[k]? := by
  unfold nt at e
  rw [List.getElem?_eq_getElem hk, List.getElem?_eq_getElem hm]
  simpa [List.getD_eq_getElem?_getD, hk, hm] using e
set_option maxRecDepth 100000 in
set_option maxHeartbeats 4000000 in
theorem same33_w (A : Option Addr) (la : List (List Int)) (ca : Nat) (A2 : Option Addr) (lq : List (List Int)) (cq_ : Nat) (now : Int) (A3 : Option Addr) (ls : List Int) (cs : Nat) (A4 : Option Addr) (lm : List (List Int)) (cm : Nat) (E1 : Option Addr) (ka : List (List Int)) (da : Nat) (E2 : Option Addr) (kq : List (List Int)) (dq_ : Nat) (know : Int) (E3 : Option Addr) (ks : List Int) (ds : Nat) (E4 : Option Addr) (km : List (List Int)) (dm : Nat) (w0 : World) (hA : Ro w0 A (flatR la)) (hW : WR 7 la) (hA2 : Ro w0 A2 (flatR lq)) (hW2 : WR 5 lq) (hA3 : Ro w0 A3 (ls.map (Value.int .i64))) (hA4 : Ro w0 A4 (flatR lm)) (hW4 : WR 3 lm) (gA : Ro w0 E1 (flatR ka)) (gW : WR 7 ka) (gA2 : Ro w0 E2 (flatR kq)) (gW2 : WR 5 kq) (gA3 : Ro w0 E3 (ks.map (Value.int .i64))) (gA4 : Ro w0 E4 (flatR km)) (gW4 : WR 3 km) (hl : la.length ≤ 100 ∧ lq.length ≤ 100 ∧ ls.length ≤ 100 ∧ lm.length ≤ 100) :
    Calls Try.prog 15 #[.agg #[.slice A la.length ca, .slice A2 lq.length cq_, .int .i64 now, .slice A3 ls.length cs, .slice A4 lm.length cm], .agg #[.slice E1 ka.length da, .slice E2 kq.length dq_, .int .i64 know, .slice E3 ks.length ds, .slice E4 km.length dm]] w0 (Ret w0 (.bool (sameF la lq now ls lm ka kq know ks km))) := by
 refine enterK 122 Try.func15 rfl rfl rfl ?_
 intro a hF Q0 hR0 hN0
 have hM := Mem.start w0
 replace hM := hM.addOld 1 hA (Nat.le_refl _)
 replace hM := hM.addOld 2 hA2 (Nat.le_refl _)
 replace hM := hM.addOld 3 hA3 (Nat.le_refl _)
 replace hM := hM.addOld 4 hA4 (Nat.le_refl _)
 replace hM := hM.addOld 5 gA (Nat.le_refl _)
 replace hM := hM.addOld 6 gA2 (Nat.le_refl _)
 replace hM := hM.addOld 7 gA3 (Nat.le_refl _)
 replace hM := hM.addOld 8 gA4 (Nat.le_refl _)
 refine wp_seq_k fun K1 hK1 => ?_
 refine wp_region_lit ?_
 refine wl (eN 2 9 (t := 27) (fun b => .pointer (some ⟨b, 0, none⟩)) #[.slice A la.length ca, .slice A2 lq.length cq_, .int .i64 now, .slice A3 ls.length cs, .slice A4 lm.length cm] hF hM (by kernel_rfl) (fun _ => by kernel_rfl) fun bb1 a w hF hM => ?_)
 refine wl (eN 3 10 (t := 27) (fun b => .pointer (some ⟨b, 0, none⟩)) #[.slice E1 ka.length da, .slice E2 kq.length dq_, .int .i64 know, .slice E3 ks.length ds, .slice E4 km.length dm] hF hM (by kernel_rfl) (fun _ => by kernel_rfl) fun bb2 a w hF hM => ?_)
 refine sB 1 [(4, .bool false)] hF (by kernel_rfl) fun a hF => ?_
 refine wpList_nil ?_
 refine hK1 _ _ ?_
 refine wp_seq_k fun K2 hK2 => ?_
 refine wp_seq_k fun K3 hK3 => ?_
 by_cases hz1 : now = know
 ·skip
  by_cases hz2 : (la.length : Int) = (ka.length : Int)
  ·skip
   by_cases hz3 : (lq.length : Int) = (kq.length : Int)
   ·skip
    by_cases hz4 : (ls.length : Int) = (ks.length : Int)
    ·skip
     refine wp_region_lit ?_
     refine sB 1 [(9, .pointer (some ⟨bb1, 2, none⟩))] hF (by kernel_rfl) fun a hF => ?_
     refine wl (eL 10 9 2 (v := .int .i64 now) hF hM (by kernel_rfl) rfl rfl (by kernel_rfl) (by kernel_rfl) fun a w hF hM => ?_)
     refine sB 1 [(11, .pointer (some ⟨bb2, 2, none⟩))] hF (by kernel_rfl) fun a hF => ?_
     refine wl (eL 12 10 2 (v := .int .i64 know) hF hM (by kernel_rfl) rfl rfl (by kernel_rfl) (by kernel_rfl) fun a w hF hM => ?_)
     refine wl (eP 13 (v0 := .bool (!decide (now = know))) (v := .bool false) hF (by kernel_rfl) (fun _ => by kernel_rfl) (nT hz1) fun a hF => ?_)
     refine sB 2 [(14, .bool false), (15, .pointer (some ⟨bb1, 0, none⟩))] hF (by kernel_rfl) fun a hF => ?_
     refine wl (eL 16 9 0 (v := .slice A la.length ca) hF hM (by kernel_rfl) rfl rfl (by kernel_rfl) (by kernel_rfl) fun a w hF hM => ?_)
     refine sB 2 [(17, .int .i64 (la.length : Int)), (18, .pointer (some ⟨bb2, 0, none⟩))] hF (by kernel_rfl) fun a hF => ?_
     refine wl (eL 19 10 0 (v := .slice E1 ka.length da) hF hM (by kernel_rfl) rfl rfl (by kernel_rfl) (by kernel_rfl) fun a w hF hM => ?_)
     refine sB 1 [(20, .int .i64 (ka.length : Int))] hF (by kernel_rfl) fun a hF => ?_
     refine wl (eP 21 (v0 := .bool (!decide ((la.length : Int) = (ka.length : Int)))) (v := .bool false) hF (by kernel_rfl) (fun _ => by kernel_rfl) (nT hz2) fun a hF => ?_)
     refine sB 3 [(22, .bool false), (23, .bool false), (24, .pointer (some ⟨bb1, 1, none⟩))] hF (by kernel_rfl) fun a hF => ?_
     refine wl (eL 25 9 1 (v := .slice A2 lq.length cq_) hF hM (by kernel_rfl) rfl rfl (by kernel_rfl) (by kernel_rfl) fun a w hF hM => ?_)
     refine sB 2 [(26, .int .i64 (lq.length : Int)), (27, .pointer (some ⟨bb2, 1, none⟩))] hF (by kernel_rfl) fun a hF => ?_
     refine wl (eL 28 10 1 (v := .slice E2 kq.length dq_) hF hM (by kernel_rfl) rfl rfl (by kernel_rfl) (by kernel_rfl) fun a w hF hM => ?_)
     refine sB 1 [(29, .int .i64 (kq.length : Int))] hF (by kernel_rfl) fun a hF => ?_
     refine wl (eP 30 (v0 := .bool (!decide ((lq.length : Int) = (kq.length : Int)))) (v := .bool false) hF (by kernel_rfl) (fun _ => by kernel_rfl) (nT hz3) fun a hF => ?_)
     refine sB 3 [(31, .bool false), (32, .bool false), (33, .pointer (some ⟨bb1, 3, none⟩))] hF (by kernel_rfl) fun a hF => ?_
     refine wl (eL 34 9 3 (v := .slice A3 ls.length cs) hF hM (by kernel_rfl) rfl rfl (by kernel_rfl) (by kernel_rfl) fun a w hF hM => ?_)
     refine sB 2 [(35, .int .i64 (ls.length : Int)), (36, .pointer (some ⟨bb2, 3, none⟩))] hF (by kernel_rfl) fun a hF => ?_
     refine wl (eL 37 10 3 (v := .slice E3 ks.length ds) hF hM (by kernel_rfl) rfl rfl (by kernel_rfl) (by kernel_rfl) fun a w hF hM => ?_)
     refine sB 1 [(38, .int .i64 (ks.length : Int))] hF (by kernel_rfl) fun a hF => ?_
     refine wl (eP 39 (v0 := .bool (!decide ((ls.length : Int) = (ks.length : Int)))) (v := .bool false) hF (by kernel_rfl) (fun _ => by kernel_rfl) (nT hz4) fun a hF => ?_)
     refine sB 3 [(40, .bool false), (41, .bool false), (42, .pointer (some ⟨bb1, 4, none⟩))] hF (by kernel_rfl) fun a hF => ?_
     refine wl (eL 43 9 4 (v := .slice A4 lm.length cm) hF hM (by kernel_rfl) rfl rfl (by kernel_rfl) (by kernel_rfl) fun a w hF hM => ?_)
     refine sB 2 [(44, .int .i64 (lm.length : Int)), (45, .pointer (some ⟨bb2, 4, none⟩))] hF (by kernel_rfl) fun a hF => ?_
     refine wl (eL 46 10 4 (v := .slice E4 km.length dm) hF hM (by kernel_rfl) rfl rfl (by kernel_rfl) (by kernel_rfl) fun a w hF hM => ?_)
     refine sB 3 [(47, .int .i64 (km.length : Int)), (48, .bool (!decide ((lm.length : Int) = (km.length : Int)))), (49, .bool (!decide ((lm.length : Int) = (km.length : Int))))] hF (by kernel_rfl) fun a hF => ?_
     refine wpList_nil ?_
     refine hK3 _ _ ?_
     by_cases hz5 : (lm.length : Int) = (km.length : Int)
     ·skip
      replace hF := hF.c hF (i := 48) (v := .bool false) rfl (nT hz5)
      replace hF := hF.c hF (i := 49) (v := .bool false) rfl (nT hz5)
      refine cF hF (by kernel_rfl) (by kernel_rfl) ?_
      refine wp_skip ?_
      refine hK2 _ _ ?_
      refine wp_seq_k fun K4 hK4 => ?_
      refine wp_seq_k fun K5 hK5 => ?_
      refine wp_region_lit ?_
      refine sB 1 [(5, .int .i64 0)] hF (by kernel_rfl) fun a hF => ?_
      refine wpList_nil ?_
      refine hK5 _ _ ?_
      refine wp_block ?_
      refine wp_loop_k (G := Nat) (fun gg a w => Fr 122 [(5, some (.int .i64 (gg : Int))), (2, some (.pointer (some ⟨bb1, 0, none⟩))), (3, some (.pointer (some ⟨bb2, 0, none⟩)))] a ∧ Mem w0.heap.size w0 [(1, some (.ro A (flatR la))), (2, some (.ro A2 (flatR lq))), (3, some (.ro A3 (ls.map (Value.int .i64)))), (4, some (.ro A4 (flatR lm))), (5, some (.ro E1 (flatR ka))), (6, some (.ro E2 (flatR kq))), (7, some (.ro E3 (ks.map (Value.int .i64)))), (8, some (.ro E4 (flatR km))), (9, some (.row bb1 27 #[.slice A la.length ca, .slice A2 lq.length cq_, .int .i64 now, .slice A3 ls.length cs, .slice A4 lm.length cm])), (10, some (.row bb2 27 #[.slice E1 ka.length da, .slice E2 kq.length dq_, .int .i64 know, .slice E3 ks.length ds, .slice E4 km.length dm]))] w ∧ ((gg : Int) ≤ (la.length : Int)) ∧ (∀ j, j < gg → la[j]? = ka[j]?)) (fun gg => la.length - gg) (0) ?_ ?_
      ·refine ⟨((((Fr.nil hF).c hF (i := 3) rfl rfl).c hF (i := 2) rfl rfl).c hF (i := 5) rfl (vi (show (0 : Int) = (0 : Int) from by omega))), (hM.sub ((((((((((Sub.nil.c (k := 10) rfl rfl).c (k := 9) rfl rfl).c (k := 8) rfl rfl).c (k := 7) rfl rfl).c (k := 6) rfl rfl).c (k := 5) rfl rfl).c (k := 4) rfl rfl).c (k := 3) rfl rfl).c (k := 2) rfl rfl).c (k := 1) rfl rfl)), (show (0 : Int) ≤ (la.length : Int) from by omega), (show ∀ j, j < 0 → la[j]? = ka[j]? from by exact fun j hj => by omega)⟩
      ·intro gg a w hI
       intro K6 hK6
       obtain ⟨k0_, rfl⟩ : ∃ x, x = gg := ⟨_, rfl⟩
       try dsimp only at hI hK6
       obtain ⟨hF, hM, hz6, hz7⟩ := hI
       refine wp_seq_k fun K7 hK7 => ?_
       refine wp_seq_k fun K8 hK8 => ?_
       refine wp_region_lit ?_
       refine sB 2 [(50, .int .i64 (k0_ : Int)), (51, .pointer (some ⟨bb1, 0, none⟩))] hF (by kernel_rfl) fun a hF => ?_
       refine wl (eL 52 9 0 (v := .slice A la.length ca) hF hM (by kernel_rfl) rfl rfl (by kernel_rfl) (by kernel_rfl) fun a w hF hM => ?_)
       refine sB 2 [(53, .int .i64 (la.length : Int)), (54, .bool (decide ((k0_ : Int) < (la.length : Int))))] hF (by kernel_rfl) fun a hF => ?_
       refine wpList_nil ?_
       refine hK8 _ _ ?_
       by_cases hz8 : (k0_ : Int) < (la.length : Int)
       ·skip
        replace hF := hF.c hF (i := 54) (v := .bool true) rfl (bT hz8)
        refine cT hF (by kernel_rfl) (by kernel_rfl) ?_
        refine wp_skip ?_
        refine hK7 _ _ ?_
        refine wp_seq_k fun K9 hK9 => ?_
        refine wp_block ?_
        refine wp_seq_k fun K10 hK10 => ?_
        refine rQ hM (by kernel_rfl) (by kernel_rfl) ?_
        refine eQ 57 (v0 := .pointer (some ⟨bb1, 0, none⟩)) (v := .pointer (some ⟨bb1, 0, none⟩)) hF (by kernel_rfl) (fun _ => by kernel_rfl) rfl fun a hF => ?_
        refine eQL 58 9 0 (v := .slice A la.length ca) hF (by kernel_rfl) rfl rfl (by kernel_rfl) (by kernel_rfl) fun a hF => ?_
        refine eQ 59 (v0 := .int .i64 (k0_ : Int)) (v := .int .i64 (k0_ : Int)) hF (by kernel_rfl) (fun _ => by kernel_rfl) rfl fun a hF => ?_
        refine eQ2 60 (v := .pointer (some (ea A (k0_ * 7)))) hF (by kernel_rfl) (yld_ix (kd := .i64) (e := 57) (len := la.length) (cap := ca) (i := (k0_ : Int)) (size := 7) (A := A) hF rfl (by kernel_rfl) (by kernel_rfl) (by kernel_rfl) (by kernel_rfl) (by kernel_rfl) (roK 1 rfl) (by omega) (by omega) (by rw [flatR_length hW]; (try simp only [List.length_map, List.length_append, List.length_replicate, List.length_set, List.length_cons, List.length_nil, flat2_length, List.length_take]); omega)) fun a hF => ?_
        refine eQ2 61 (v := .agg #[.int .i64 (rc la k0_ 0), .int .i64 (rc la k0_ 1), .int .i64 (rc la k0_ 2), .int .i64 (rc la k0_ 3), .int .i64 (rc la k0_ 4), .int .i64 (rc la k0_ 5), .int .i64 (rc la k0_ 6)]) hF (by kernel_rfl) (yld_roM (A := A) (j := k0_ * 7) (us := [.int .i64 (rc la k0_ 0), .int .i64 (rc la k0_ 1), .int .i64 (rc la k0_ 2), .int .i64 (rc la k0_ 3), .int .i64 (rc la k0_ 4), .int .i64 (rc la k0_ 5), .int .i64 (rc la k0_ 6)]) hF rfl (by kernel_rfl) (by kernel_rfl) (roK 1 rfl) (by kernel_rfl) rfl (rc_sub (k := k0_) (f := 0) (m := 7) hW (by omega) (by decide) rfl)) fun a hF => ?_
        refine eQ 62 (v0 := .pointer (some ⟨bb2, 0, none⟩)) (v := .pointer (some ⟨bb2, 0, none⟩)) hF (by kernel_rfl) (fun _ => by kernel_rfl) rfl fun a hF => ?_
        refine eQL 63 10 0 (v := .slice E1 ka.length da) hF (by kernel_rfl) rfl rfl (by kernel_rfl) (by kernel_rfl) fun a hF => ?_
        refine eQ 64 (v0 := .int .i64 (k0_ : Int)) (v := .int .i64 (k0_ : Int)) hF (by kernel_rfl) (fun _ => by kernel_rfl) rfl fun a hF => ?_
        refine eQ2 65 (v := .pointer (some (ea E1 (k0_ * 7)))) hF (by kernel_rfl) (yld_ix (kd := .i64) (e := 57) (len := ka.length) (cap := da) (i := (k0_ : Int)) (size := 7) (A := E1) hF rfl (by kernel_rfl) (by kernel_rfl) (by kernel_rfl) (by kernel_rfl) (by kernel_rfl) (roK 5 rfl) (by omega) (by omega) (by rw [flatR_length gW]; (try simp only [List.length_map, List.length_append, List.length_replicate, List.length_set, List.length_cons, List.length_nil, flat2_length, List.length_take]); omega)) fun a hF => ?_
        refine eQ2 66 (v := .agg #[.int .i64 (rc ka k0_ 0), .int .i64 (rc ka k0_ 1), .int .i64 (rc ka k0_ 2), .int .i64 (rc ka k0_ 3), .int .i64 (rc ka k0_ 4), .int .i64 (rc ka k0_ 5), .int .i64 (rc ka k0_ 6)]) hF (by kernel_rfl) (yld_roM (A := E1) (j := k0_ * 7) (us := [.int .i64 (rc ka k0_ 0), .int .i64 (rc ka k0_ 1), .int .i64 (rc ka k0_ 2), .int .i64 (rc ka k0_ 3), .int .i64 (rc ka k0_ 4), .int .i64 (rc ka k0_ 5), .int .i64 (rc ka k0_ 6)]) hF rfl (by kernel_rfl) (by kernel_rfl) (roK 5 rfl) (by kernel_rfl) rfl (rc_sub (k := k0_) (f := 0) (m := 7) gW (by omega) (by decide) rfl)) fun a hF => ?_
        refine eQ2 67 (v := .bool (!decide ([rc la k0_ 0, rc la k0_ 1, rc la k0_ 2, rc la k0_ 3, rc la k0_ 4, rc la k0_ 5, rc la k0_ 6] = [rc ka k0_ 0, rc ka k0_ 1, rc ka k0_ 2, rc ka k0_ 3, rc ka k0_ 4, rc ka k0_ 5, rc ka k0_ 6]))) hF (by kernel_rfl) (yld_neq (C := Mem _ _ _) [rc la k0_ 0, rc la k0_ 1, rc la k0_ 2, rc la k0_ 3, rc la k0_ 4, rc la k0_ 5, rc la k0_ 6] [rc ka k0_ 0, rc ka k0_ 1, rc ka k0_ 2, rc ka k0_ 3, rc ka k0_ 4, rc ka k0_ 5, rc ka k0_ 6] hF rfl (by kernel_rfl) (by kernel_rfl) (by kernel_rfl) rfl (by kernel_rfl) (by kernel_rfl) (by kernel_rfl) rfl rfl) fun a hF => ?_
        refine wpQuiet_nil ?_
        intro w hM
        refine hK10 _ _ ?_
        by_cases hz9 : [rc la k0_ 0, rc la k0_ 1, rc la k0_ 2, rc la k0_ 3, rc la k0_ 4, rc la k0_ 5, rc la k0_ 6] = [rc ka k0_ 0, rc ka k0_ 1, rc ka k0_ 2, rc ka k0_ 3, rc ka k0_ 4, rc ka k0_ 5, rc ka k0_ 6]
        ·skip
         replace hF := hF.c hF (i := 67) (v := .bool false) rfl (nT hz9)
         refine cF hF (by kernel_rfl) (by kernel_rfl) ?_
         refine wp_skip ?_
         refine hK9 _ _ ?_
         refine wp_region_lit ?_
         refine sB 1 [(55, .int .i64 (k0_ : Int))] hF (by kernel_rfl) fun a hF => ?_
         refine wl (eP 56 (v0 := .int .i64 (IntKind.i64.wrap ((k0_ : Int) + 1))) (v := .int .i64 ((k0_ : Int) + 1)) hF (by kernel_rfl) (fun _ => by kernel_rfl) (wi (by omega)) fun a hF => ?_)
         refine sB 1 [(5, .int .i64 ((k0_ : Int) + 1))] hF (by kernel_rfl) fun a hF => ?_
         refine wpList_nil ?_
         refine hK6 _ _ ⟨(k0_ + 1), ⟨((((Fr.nil hF).c hF (i := 3) rfl rfl).c hF (i := 2) rfl rfl).c hF (i := 5) rfl (vi (show ((k0_ : Int) + 1 : Int) = ((k0_ + 1) : Int) from by omega))), (hM.sub ((((((((((Sub.nil.c (k := 10) rfl rfl).c (k := 9) rfl rfl).c (k := 8) rfl rfl).c (k := 7) rfl rfl).c (k := 6) rfl rfl).c (k := 5) rfl rfl).c (k := 4) rfl rfl).c (k := 3) rfl rfl).c (k := 2) rfl rfl).c (k := 1) rfl rfl)), (show ((k0_ + 1) : Int) ≤ (la.length : Int) from by omega), (show ∀ j, j < (k0_ + 1) → la[j]? = ka[j]? from by exact all_next (by assumption) (rec_eq (n := 7) hW gW (by omega) (by omega) (by first | exact hz9 | omega)))⟩, (show la.length - (k0_ + 1) < la.length - k0_ from by omega)⟩
        ·skip
         replace hF := hF.c hF (i := 67) (v := .bool true) rfl (nF hz9)
         refine cT hF (by kernel_rfl) (by kernel_rfl) ?_
         refine wp_seq_k fun K11 hK11 => ?_
         refine wp_region_lit ?_
         refine sB 1 [(4, .bool false)] hF (by kernel_rfl) fun a hF => ?_
         refine wpList_nil ?_
         refine hK11 _ _ ?_
         refine wp_ret ?_
         refine hR0 _ _ ?_
         refine ret_of hF hM (.tmp rfl (.nil)) ?_
         exact ⟨ret_bool (decide_eq_false (fun z => hz9 (by simp only [z.1, z.2.1, z.2.2.2.1, z.2.2.2.2]))).symm, hM.bel⟩
       ·skip
        replace hF := hF.c hF (i := 54) (v := .bool false) rfl (bF hz8)
        refine cF hF (by kernel_rfl) (by kernel_rfl) ?_
        refine wp_exit ?_
        refine hK4 _ _ ?_
        refine wp_seq_k fun K12 hK12 => ?_
        refine wp_seq_k fun K13 hK13 => ?_
        refine wp_region_lit ?_
        refine sB 1 [(6, .int .i64 0)] hF (by kernel_rfl) fun a hF => ?_
        refine wpList_nil ?_
        refine hK13 _ _ ?_
        refine wp_block ?_
        refine wp_loop_k (G := Nat) (fun gg a w => Fr 122 [(6, some (.int .i64 (gg : Int))), (2, some (.pointer (some ⟨bb1, 0, none⟩))), (3, some (.pointer (some ⟨bb2, 0, none⟩)))] a ∧ Mem w0.heap.size w0 [(1, some (.ro A (flatR la))), (2, some (.ro A2 (flatR lq))), (3, some (.ro A3 (ls.map (Value.int .i64)))), (4, some (.ro A4 (flatR lm))), (5, some (.ro E1 (flatR ka))), (6, some (.ro E2 (flatR kq))), (7, some (.ro E3 (ks.map (Value.int .i64)))), (8, some (.ro E4 (flatR km))), (9, some (.row bb1 27 #[.slice A la.length ca, .slice A2 lq.length cq_, .int .i64 now, .slice A3 ls.length cs, .slice A4 lm.length cm])), (10, some (.row bb2 27 #[.slice E1 ka.length da, .slice E2 kq.length dq_, .int .i64 know, .slice E3 ks.length ds, .slice E4 km.length dm]))] w ∧ ((gg : Int) ≤ (ls.length : Int)) ∧ (∀ j, j < gg → ls[j]? = ks[j]?)) (fun gg => ls.length - gg) (0) ?_ ?_
        ·refine ⟨((((Fr.nil hF).c hF (i := 3) rfl rfl).c hF (i := 2) rfl rfl).c hF (i := 6) rfl (vi (show (0 : Int) = (0 : Int) from by omega))), (hM.sub ((((((((((Sub.nil.c (k := 10) rfl rfl).c (k := 9) rfl rfl).c (k := 8) rfl rfl).c (k := 7) rfl rfl).c (k := 6) rfl rfl).c (k := 5) rfl rfl).c (k := 4) rfl rfl).c (k := 3) rfl rfl).c (k := 2) rfl rfl).c (k := 1) rfl rfl)), (show (0 : Int) ≤ (ls.length : Int) from by omega), (show ∀ j, j < 0 → ls[j]? = ks[j]? from by exact fun j hj => by omega)⟩
        ·intro gg a w hI
         intro K14 hK14
         obtain ⟨k1_, rfl⟩ : ∃ x, x = gg := ⟨_, rfl⟩
         try dsimp only at hI hK14
         obtain ⟨hF, hM, hz10, hz11⟩ := hI
         refine wp_seq_k fun K15 hK15 => ?_
         refine wp_seq_k fun K16 hK16 => ?_
         refine wp_region_lit ?_
         refine sB 2 [(68, .int .i64 (k1_ : Int)), (69, .pointer (some ⟨bb1, 3, none⟩))] hF (by kernel_rfl) fun a hF => ?_
         refine wl (eL 70 9 3 (v := .slice A3 ls.length cs) hF hM (by kernel_rfl) rfl rfl (by kernel_rfl) (by kernel_rfl) fun a w hF hM => ?_)
         refine sB 2 [(71, .int .i64 (ls.length : Int)), (72, .bool (decide ((k1_ : Int) < (ls.length : Int))))] hF (by kernel_rfl) fun a hF => ?_
         refine wpList_nil ?_
         refine hK16 _ _ ?_
         by_cases hz12 : (k1_ : Int) < (ls.length : Int)
         ·skip
          replace hF := hF.c hF (i := 72) (v := .bool true) rfl (bT hz12)
          refine cT hF (by kernel_rfl) (by kernel_rfl) ?_
          refine wp_skip ?_
          refine hK15 _ _ ?_
          refine wp_seq_k fun K17 hK17 => ?_
          refine wp_block ?_
          refine wp_seq_k fun K18 hK18 => ?_
          refine rQ hM (by kernel_rfl) (by kernel_rfl) ?_
          refine eQ 75 (v0 := .pointer (some ⟨bb1, 3, none⟩)) (v := .pointer (some ⟨bb1, 3, none⟩)) hF (by kernel_rfl) (fun _ => by kernel_rfl) rfl fun a hF => ?_
          refine eQL 76 9 3 (v := .slice A3 ls.length cs) hF (by kernel_rfl) rfl rfl (by kernel_rfl) (by kernel_rfl) fun a hF => ?_
          refine eQ 77 (v0 := .int .i64 (k1_ : Int)) (v := .int .i64 (k1_ : Int)) hF (by kernel_rfl) (fun _ => by kernel_rfl) rfl fun a hF => ?_
          refine eQ2 78 (v := .pointer (some (ea A3 (k1_)))) hF (by kernel_rfl) (yld_ix (kd := .i64) (e := 3) (len := ls.length) (cap := cs) (i := (k1_ : Int)) (size := 1) (A := A3) hF rfl (by kernel_rfl) (by kernel_rfl) (by kernel_rfl) (by kernel_rfl) (by kernel_rfl) (roK 3 rfl) (by omega) (by omega) (by rw [List.length_map]; omega)) fun a hF => ?_
          refine eQ2 79 (v := .int .i64 (nt ls k1_)) hF (by kernel_rfl) (yld_ro1 (A := A3) (j := k1_) hF rfl (by kernel_rfl) (by kernel_rfl) (roK 3 rfl) (by kernel_rfl) (nt_at (by omega))) fun a hF => ?_
          refine eQ 80 (v0 := .pointer (some ⟨bb2, 3, none⟩)) (v := .pointer (some ⟨bb2, 3, none⟩)) hF (by kernel_rfl) (fun _ => by kernel_rfl) rfl fun a hF => ?_
          refine eQL 81 10 3 (v := .slice E3 ks.length ds) hF (by kernel_rfl) rfl rfl (by kernel_rfl) (by kernel_rfl) fun a hF => ?_
          refine eQ 82 (v0 := .int .i64 (k1_ : Int)) (v := .int .i64 (k1_ : Int)) hF (by kernel_rfl) (fun _ => by kernel_rfl) rfl fun a hF => ?_
          refine eQ2 83 (v := .pointer (some (ea E3 (k1_)))) hF (by kernel_rfl) (yld_ix (kd := .i64) (e := 3) (len := ks.length) (cap := ds) (i := (k1_ : Int)) (size := 1) (A := E3) hF rfl (by kernel_rfl) (by kernel_rfl) (by kernel_rfl) (by kernel_rfl) (by kernel_rfl) (roK 7 rfl) (by omega) (by omega) (by rw [List.length_map]; omega)) fun a hF => ?_
          refine eQ2 84 (v := .int .i64 (nt ks k1_)) hF (by kernel_rfl) (yld_ro1 (A := E3) (j := k1_) hF rfl (by kernel_rfl) (by kernel_rfl) (roK 7 rfl) (by kernel_rfl) (nt_at (by omega))) fun a hF => ?_
          refine eQ 85 (v0 := .bool (!decide (nt ls k1_ = nt ks k1_))) (v := .bool (!decide (nt ls k1_ = nt ks k1_))) hF (by kernel_rfl) (fun _ => by kernel_rfl) rfl fun a hF => ?_
          refine wpQuiet_nil ?_
          intro w hM
          refine hK18 _ _ ?_
          by_cases hz13 : nt ls k1_ = nt ks k1_
          ·skip
           replace hF := hF.c hF (i := 85) (v := .bool false) rfl (nT hz13)
           refine cF hF (by kernel_rfl) (by kernel_rfl) ?_
           refine wp_skip ?_
           refine hK17 _ _ ?_
           refine wp_region_lit ?_
           refine sB 1 [(73, .int .i64 (k1_ : Int))] hF (by kernel_rfl) fun a hF => ?_
           refine wl (eP 74 (v0 := .int .i64 (IntKind.i64.wrap ((k1_ : Int) + 1))) (v := .int .i64 ((k1_ : Int) + 1)) hF (by kernel_rfl) (fun _ => by kernel_rfl) (wi (by omega)) fun a hF => ?_)
           refine sB 1 [(6, .int .i64 ((k1_ : Int) + 1))] hF (by kernel_rfl) fun a hF => ?_
           refine wpList_nil ?_
           refine hK14 _ _ ⟨(k1_ + 1), ⟨((((Fr.nil hF).c hF (i := 3) rfl rfl).c hF (i := 2) rfl rfl).c hF (i := 6) rfl (vi (show ((k1_ : Int) + 1 : Int) = ((k1_ + 1) : Int) from by omega))), (hM.sub ((((((((((Sub.nil.c (k := 10) rfl rfl).c (k := 9) rfl rfl).c (k := 8) rfl rfl).c (k := 7) rfl rfl).c (k := 6) rfl rfl).c (k := 5) rfl rfl).c (k := 4) rfl rfl).c (k := 3) rfl rfl).c (k := 2) rfl rfl).c (k := 1) rfl rfl)), (show ((k1_ + 1) : Int) ≤ (ls.length : Int) from by omega), (show ∀ j, j < (k1_ + 1) → ls[j]? = ks[j]? from by exact all_next (by assumption) (nt_eq (by omega) (by omega) (by omega)))⟩, (show ls.length - (k1_ + 1) < ls.length - k1_ from by omega)⟩
          ·skip
           replace hF := hF.c hF (i := 85) (v := .bool true) rfl (nF hz13)
           refine cT hF (by kernel_rfl) (by kernel_rfl) ?_
           refine wp_seq_k fun K19 hK19 => ?_
           refine wp_region_lit ?_
           refine sB 1 [(4, .bool false)] hF (by kernel_rfl) fun a hF => ?_
           refine wpList_nil ?_
           refine hK19 _ _ ?_
           refine wp_ret ?_
           refine hR0 _ _ ?_
           refine ret_of hF hM (.tmp rfl (.nil)) ?_
           exact ⟨ret_bool (decide_eq_false (fun z => hz13 (by simp only [z.1, z.2.1, z.2.2.2.1, z.2.2.2.2]))).symm, hM.bel⟩
         ·skip
          replace hF := hF.c hF (i := 72) (v := .bool false) rfl (bF hz12)
          refine cF hF (by kernel_rfl) (by kernel_rfl) ?_
          refine wp_exit ?_
          refine hK12 _ _ ?_
          refine wp_seq_k fun K20 hK20 => ?_
          refine wp_seq_k fun K21 hK21 => ?_
          refine wp_region_lit ?_
          refine sB 1 [(7, .int .i64 0)] hF (by kernel_rfl) fun a hF => ?_
          refine wpList_nil ?_
          refine hK21 _ _ ?_
          refine wp_block ?_
          refine wp_loop_k (G := Nat) (fun gg a w => Fr 122 [(7, some (.int .i64 (gg : Int))), (2, some (.pointer (some ⟨bb1, 0, none⟩))), (3, some (.pointer (some ⟨bb2, 0, none⟩)))] a ∧ Mem w0.heap.size w0 [(1, some (.ro A (flatR la))), (2, some (.ro A2 (flatR lq))), (3, some (.ro A3 (ls.map (Value.int .i64)))), (4, some (.ro A4 (flatR lm))), (5, some (.ro E1 (flatR ka))), (6, some (.ro E2 (flatR kq))), (7, some (.ro E3 (ks.map (Value.int .i64)))), (8, some (.ro E4 (flatR km))), (9, some (.row bb1 27 #[.slice A la.length ca, .slice A2 lq.length cq_, .int .i64 now, .slice A3 ls.length cs, .slice A4 lm.length cm])), (10, some (.row bb2 27 #[.slice E1 ka.length da, .slice E2 kq.length dq_, .int .i64 know, .slice E3 ks.length ds, .slice E4 km.length dm]))] w ∧ ((gg : Int) ≤ (lq.length : Int)) ∧ (∀ j, j < gg → lq[j]? = kq[j]?)) (fun gg => lq.length - gg) (0) ?_ ?_
          ·refine ⟨((((Fr.nil hF).c hF (i := 3) rfl rfl).c hF (i := 2) rfl rfl).c hF (i := 7) rfl (vi (show (0 : Int) = (0 : Int) from by omega))), (hM.sub ((((((((((Sub.nil.c (k := 10) rfl rfl).c (k := 9) rfl rfl).c (k := 8) rfl rfl).c (k := 7) rfl rfl).c (k := 6) rfl rfl).c (k := 5) rfl rfl).c (k := 4) rfl rfl).c (k := 3) rfl rfl).c (k := 2) rfl rfl).c (k := 1) rfl rfl)), (show (0 : Int) ≤ (lq.length : Int) from by omega), (show ∀ j, j < 0 → lq[j]? = kq[j]? from by exact fun j hj => by omega)⟩
          ·intro gg a w hI
           intro K22 hK22
           obtain ⟨k2_, rfl⟩ : ∃ x, x = gg := ⟨_, rfl⟩
           try dsimp only at hI hK22
           obtain ⟨hF, hM, hz14, hz15⟩ := hI
           refine wp_seq_k fun K23 hK23 => ?_
           refine wp_seq_k fun K24 hK24 => ?_
           refine wp_region_lit ?_
           refine sB 2 [(86, .int .i64 (k2_ : Int)), (87, .pointer (some ⟨bb1, 1, none⟩))] hF (by kernel_rfl) fun a hF => ?_
           refine wl (eL 88 9 1 (v := .slice A2 lq.length cq_) hF hM (by kernel_rfl) rfl rfl (by kernel_rfl) (by kernel_rfl) fun a w hF hM => ?_)
           refine sB 2 [(89, .int .i64 (lq.length : Int)), (90, .bool (decide ((k2_ : Int) < (lq.length : Int))))] hF (by kernel_rfl) fun a hF => ?_
           refine wpList_nil ?_
           refine hK24 _ _ ?_
           by_cases hz16 : (k2_ : Int) < (lq.length : Int)
           ·skip
            replace hF := hF.c hF (i := 90) (v := .bool true) rfl (bT hz16)
            refine cT hF (by kernel_rfl) (by kernel_rfl) ?_
            refine wp_skip ?_
            refine hK23 _ _ ?_
            refine wp_seq_k fun K25 hK25 => ?_
            refine wp_block ?_
            refine wp_seq_k fun K26 hK26 => ?_
            refine rQ hM (by kernel_rfl) (by kernel_rfl) ?_
            refine eQ 93 (v0 := .pointer (some ⟨bb1, 1, none⟩)) (v := .pointer (some ⟨bb1, 1, none⟩)) hF (by kernel_rfl) (fun _ => by kernel_rfl) rfl fun a hF => ?_
            refine eQL 94 9 1 (v := .slice A2 lq.length cq_) hF (by kernel_rfl) rfl rfl (by kernel_rfl) (by kernel_rfl) fun a hF => ?_
            refine eQ 95 (v0 := .int .i64 (k2_ : Int)) (v := .int .i64 (k2_ : Int)) hF (by kernel_rfl) (fun _ => by kernel_rfl) rfl fun a hF => ?_
            refine eQ2 96 (v := .pointer (some (ea A2 (k2_ * 5)))) hF (by kernel_rfl) (yld_ix (kd := .i64) (e := 69) (len := lq.length) (cap := cq_) (i := (k2_ : Int)) (size := 5) (A := A2) hF rfl (by kernel_rfl) (by kernel_rfl) (by kernel_rfl) (by kernel_rfl) (by kernel_rfl) (roK 2 rfl) (by omega) (by omega) (by rw [flatR_length hW2]; (try simp only [List.length_map, List.length_append, List.length_replicate, List.length_set, List.length_cons, List.length_nil, flat2_length, List.length_take]); omega)) fun a hF => ?_
            refine eQ2 97 (v := .agg #[.int .i64 (rc lq k2_ 0), .int .i64 (rc lq k2_ 1), .int .i64 (rc lq k2_ 2), .int .i64 (rc lq k2_ 3), .int .i64 (rc lq k2_ 4)]) hF (by kernel_rfl) (yld_roM (A := A2) (j := k2_ * 5) (us := [.int .i64 (rc lq k2_ 0), .int .i64 (rc lq k2_ 1), .int .i64 (rc lq k2_ 2), .int .i64 (rc lq k2_ 3), .int .i64 (rc lq k2_ 4)]) hF rfl (by kernel_rfl) (by kernel_rfl) (roK 2 rfl) (by kernel_rfl) rfl (rc_sub (k := k2_) (f := 0) (m := 5) hW2 (by omega) (by decide) rfl)) fun a hF => ?_
            refine eQ 98 (v0 := .pointer (some ⟨bb2, 1, none⟩)) (v := .pointer (some ⟨bb2, 1, none⟩)) hF (by kernel_rfl) (fun _ => by kernel_rfl) rfl fun a hF => ?_
            refine eQL 99 10 1 (v := .slice E2 kq.length dq_) hF (by kernel_rfl) rfl rfl (by kernel_rfl) (by kernel_rfl) fun a hF => ?_
            refine eQ 100 (v0 := .int .i64 (k2_ : Int)) (v := .int .i64 (k2_ : Int)) hF (by kernel_rfl) (fun _ => by kernel_rfl) rfl fun a hF => ?_
            refine eQ2 101 (v := .pointer (some (ea E2 (k2_ * 5)))) hF (by kernel_rfl) (yld_ix (kd := .i64) (e := 69) (len := kq.length) (cap := dq_) (i := (k2_ : Int)) (size := 5) (A := E2) hF rfl (by kernel_rfl) (by kernel_rfl) (by kernel_rfl) (by kernel_rfl) (by kernel_rfl) (roK 6 rfl) (by omega) (by omega) (by rw [flatR_length gW2]; (try simp only [List.length_map, List.length_append, List.length_replicate, List.length_set, List.length_cons, List.length_nil, flat2_length, List.length_take]); omega)) fun a hF => ?_
            refine eQ2 102 (v := .agg #[.int .i64 (rc kq k2_ 0), .int .i64 (rc kq k2_ 1), .int .i64 (rc kq k2_ 2), .int .i64 (rc kq k2_ 3), .int .i64 (rc kq k2_ 4)]) hF (by kernel_rfl) (yld_roM (A := E2) (j := k2_ * 5) (us := [.int .i64 (rc kq k2_ 0), .int .i64 (rc kq k2_ 1), .int .i64 (rc kq k2_ 2), .int .i64 (rc kq k2_ 3), .int .i64 (rc kq k2_ 4)]) hF rfl (by kernel_rfl) (by kernel_rfl) (roK 6 rfl) (by kernel_rfl) rfl (rc_sub (k := k2_) (f := 0) (m := 5) gW2 (by omega) (by decide) rfl)) fun a hF => ?_
            refine eQ2 103 (v := .bool (!decide ([rc lq k2_ 0, rc lq k2_ 1, rc lq k2_ 2, rc lq k2_ 3, rc lq k2_ 4] = [rc kq k2_ 0, rc kq k2_ 1, rc kq k2_ 2, rc kq k2_ 3, rc kq k2_ 4]))) hF (by kernel_rfl) (yld_neq2 (C := Mem _ _ _) [rc lq k2_ 0, rc lq k2_ 1, rc lq k2_ 2, rc lq k2_ 3, rc lq k2_ 4] [rc kq k2_ 0, rc kq k2_ 1, rc kq k2_ 2, rc kq k2_ 3, rc kq k2_ 4] hF rfl (by kernel_rfl) (by kernel_rfl) (by kernel_rfl) rfl (by kernel_rfl) (by kernel_rfl) (by kernel_rfl) rfl) fun a hF => ?_
            refine wpQuiet_nil ?_
            intro w hM
            refine hK26 _ _ ?_
            by_cases hz17 : [rc lq k2_ 0, rc lq k2_ 1, rc lq k2_ 2, rc lq k2_ 3, rc lq k2_ 4] = [rc kq k2_ 0, rc kq k2_ 1, rc kq k2_ 2, rc kq k2_ 3, rc kq k2_ 4]
            ·skip
             replace hF := hF.c hF (i := 103) (v := .bool false) rfl (nT hz17)
             refine cF hF (by kernel_rfl) (by kernel_rfl) ?_
             refine wp_skip ?_
             refine hK25 _ _ ?_
             refine wp_region_lit ?_
             refine sB 1 [(91, .int .i64 (k2_ : Int))] hF (by kernel_rfl) fun a hF => ?_
             refine wl (eP 92 (v0 := .int .i64 (IntKind.i64.wrap ((k2_ : Int) + 1))) (v := .int .i64 ((k2_ : Int) + 1)) hF (by kernel_rfl) (fun _ => by kernel_rfl) (wi (by omega)) fun a hF => ?_)
             refine sB 1 [(7, .int .i64 ((k2_ : Int) + 1))] hF (by kernel_rfl) fun a hF => ?_
             refine wpList_nil ?_
             refine hK22 _ _ ⟨(k2_ + 1), ⟨((((Fr.nil hF).c hF (i := 3) rfl rfl).c hF (i := 2) rfl rfl).c hF (i := 7) rfl (vi (show ((k2_ : Int) + 1 : Int) = ((k2_ + 1) : Int) from by omega))), (hM.sub ((((((((((Sub.nil.c (k := 10) rfl rfl).c (k := 9) rfl rfl).c (k := 8) rfl rfl).c (k := 7) rfl rfl).c (k := 6) rfl rfl).c (k := 5) rfl rfl).c (k := 4) rfl rfl).c (k := 3) rfl rfl).c (k := 2) rfl rfl).c (k := 1) rfl rfl)), (show ((k2_ + 1) : Int) ≤ (lq.length : Int) from by omega), (show ∀ j, j < (k2_ + 1) → lq[j]? = kq[j]? from by exact all_next (by assumption) (rec_eq (n := 5) hW2 gW2 (by omega) (by omega) (by first | exact hz17 | omega)))⟩, (show lq.length - (k2_ + 1) < lq.length - k2_ from by omega)⟩
            ·skip
             replace hF := hF.c hF (i := 103) (v := .bool true) rfl (nF hz17)
             refine cT hF (by kernel_rfl) (by kernel_rfl) ?_
             refine wp_seq_k fun K27 hK27 => ?_
             refine wp_region_lit ?_
             refine sB 1 [(4, .bool false)] hF (by kernel_rfl) fun a hF => ?_
             refine wpList_nil ?_
             refine hK27 _ _ ?_
             refine wp_ret ?_
             refine hR0 _ _ ?_
             refine ret_of hF hM (.tmp rfl (.nil)) ?_
             exact ⟨ret_bool (decide_eq_false (fun z => hz17 (by simp only [z.1, z.2.1, z.2.2.2.1, z.2.2.2.2]))).symm, hM.bel⟩
           ·skip
            replace hF := hF.c hF (i := 90) (v := .bool false) rfl (bF hz16)
            refine cF hF (by kernel_rfl) (by kernel_rfl) ?_
            refine wp_exit ?_
            refine hK20 _ _ ?_
            refine wp_seq_k fun K28 hK28 => ?_
            refine wp_seq_k fun K29 hK29 => ?_
            refine wp_region_lit ?_
            refine sB 1 [(8, .int .i64 0)] hF (by kernel_rfl) fun a hF => ?_
            refine wpList_nil ?_
            refine hK29 _ _ ?_
            refine wp_block ?_
            refine wp_loop_k (G := Nat) (fun gg a w => Fr 122 [(8, some (.int .i64 (gg : Int))), (2, some (.pointer (some ⟨bb1, 0, none⟩))), (3, some (.pointer (some ⟨bb2, 0, none⟩)))] a ∧ Mem w0.heap.size w0 [(1, some (.ro A (flatR la))), (2, some (.ro A2 (flatR lq))), (3, some (.ro A3 (ls.map (Value.int .i64)))), (4, some (.ro A4 (flatR lm))), (5, some (.ro E1 (flatR ka))), (6, some (.ro E2 (flatR kq))), (7, some (.ro E3 (ks.map (Value.int .i64)))), (8, some (.ro E4 (flatR km))), (9, some (.row bb1 27 #[.slice A la.length ca, .slice A2 lq.length cq_, .int .i64 now, .slice A3 ls.length cs, .slice A4 lm.length cm])), (10, some (.row bb2 27 #[.slice E1 ka.length da, .slice E2 kq.length dq_, .int .i64 know, .slice E3 ks.length ds, .slice E4 km.length dm]))] w ∧ ((gg : Int) ≤ (lm.length : Int)) ∧ (∀ j, j < gg → lm[j]? = km[j]?)) (fun gg => lm.length - gg) (0) ?_ ?_
            ·refine ⟨((((Fr.nil hF).c hF (i := 3) rfl rfl).c hF (i := 2) rfl rfl).c hF (i := 8) rfl (vi (show (0 : Int) = (0 : Int) from by omega))), (hM.sub ((((((((((Sub.nil.c (k := 10) rfl rfl).c (k := 9) rfl rfl).c (k := 8) rfl rfl).c (k := 7) rfl rfl).c (k := 6) rfl rfl).c (k := 5) rfl rfl).c (k := 4) rfl rfl).c (k := 3) rfl rfl).c (k := 2) rfl rfl).c (k := 1) rfl rfl)), (show (0 : Int) ≤ (lm.length : Int) from by omega), (show ∀ j, j < 0 → lm[j]? = km[j]? from by exact fun j hj => by omega)⟩
            ·intro gg a w hI
             intro K30 hK30
             obtain ⟨k3_, rfl⟩ : ∃ x, x = gg := ⟨_, rfl⟩
             try dsimp only at hI hK30
             obtain ⟨hF, hM, hz18, hz19⟩ := hI
             refine wp_seq_k fun K31 hK31 => ?_
             refine wp_seq_k fun K32 hK32 => ?_
             refine wp_region_lit ?_
             refine sB 2 [(104, .int .i64 (k3_ : Int)), (105, .pointer (some ⟨bb1, 4, none⟩))] hF (by kernel_rfl) fun a hF => ?_
             refine wl (eL 106 9 4 (v := .slice A4 lm.length cm) hF hM (by kernel_rfl) rfl rfl (by kernel_rfl) (by kernel_rfl) fun a w hF hM => ?_)
             refine sB 2 [(107, .int .i64 (lm.length : Int)), (108, .bool (decide ((k3_ : Int) < (lm.length : Int))))] hF (by kernel_rfl) fun a hF => ?_
             refine wpList_nil ?_
             refine hK32 _ _ ?_
             by_cases hz20 : (k3_ : Int) < (lm.length : Int)
             ·skip
              replace hF := hF.c hF (i := 108) (v := .bool true) rfl (bT hz20)
              refine cT hF (by kernel_rfl) (by kernel_rfl) ?_
              refine wp_skip ?_
              refine hK31 _ _ ?_
              refine wp_seq_k fun K33 hK33 => ?_
              refine wp_block ?_
              refine wp_seq_k fun K34 hK34 => ?_
              refine rQ hM (by kernel_rfl) (by kernel_rfl) ?_
              refine eQ 111 (v0 := .pointer (some ⟨bb1, 4, none⟩)) (v := .pointer (some ⟨bb1, 4, none⟩)) hF (by kernel_rfl) (fun _ => by kernel_rfl) rfl fun a hF => ?_
              refine eQL 112 9 4 (v := .slice A4 lm.length cm) hF (by kernel_rfl) rfl rfl (by kernel_rfl) (by kernel_rfl) fun a hF => ?_
              refine eQ 113 (v0 := .int .i64 (k3_ : Int)) (v := .int .i64 (k3_ : Int)) hF (by kernel_rfl) (fun _ => by kernel_rfl) rfl fun a hF => ?_
              refine eQ2 114 (v := .pointer (some (ea A4 (k3_ * 3)))) hF (by kernel_rfl) (yld_ix (kd := .i64) (e := 80) (len := lm.length) (cap := cm) (i := (k3_ : Int)) (size := 3) (A := A4) hF rfl (by kernel_rfl) (by kernel_rfl) (by kernel_rfl) (by kernel_rfl) (by kernel_rfl) (roK 4 rfl) (by omega) (by omega) (by rw [flatR_length hW4]; (try simp only [List.length_map, List.length_append, List.length_replicate, List.length_set, List.length_cons, List.length_nil, flat2_length, List.length_take]); omega)) fun a hF => ?_
              refine eQ2 115 (v := .agg #[.int .i64 (rc lm k3_ 0), .int .i64 (rc lm k3_ 1), .int .i64 (rc lm k3_ 2)]) hF (by kernel_rfl) (yld_roM (A := A4) (j := k3_ * 3) (us := [.int .i64 (rc lm k3_ 0), .int .i64 (rc lm k3_ 1), .int .i64 (rc lm k3_ 2)]) hF rfl (by kernel_rfl) (by kernel_rfl) (roK 4 rfl) (by kernel_rfl) rfl (rc_sub (k := k3_) (f := 0) (m := 3) hW4 (by omega) (by decide) rfl)) fun a hF => ?_
              refine eQ 116 (v0 := .pointer (some ⟨bb2, 4, none⟩)) (v := .pointer (some ⟨bb2, 4, none⟩)) hF (by kernel_rfl) (fun _ => by kernel_rfl) rfl fun a hF => ?_
              refine eQL 117 10 4 (v := .slice E4 km.length dm) hF (by kernel_rfl) rfl rfl (by kernel_rfl) (by kernel_rfl) fun a hF => ?_
              refine eQ 118 (v0 := .int .i64 (k3_ : Int)) (v := .int .i64 (k3_ : Int)) hF (by kernel_rfl) (fun _ => by kernel_rfl) rfl fun a hF => ?_
              refine eQ2 119 (v := .pointer (some (ea E4 (k3_ * 3)))) hF (by kernel_rfl) (yld_ix (kd := .i64) (e := 80) (len := km.length) (cap := dm) (i := (k3_ : Int)) (size := 3) (A := E4) hF rfl (by kernel_rfl) (by kernel_rfl) (by kernel_rfl) (by kernel_rfl) (by kernel_rfl) (roK 8 rfl) (by omega) (by omega) (by rw [flatR_length gW4]; (try simp only [List.length_map, List.length_append, List.length_replicate, List.length_set, List.length_cons, List.length_nil, flat2_length, List.length_take]); omega)) fun a hF => ?_
              refine eQ2 120 (v := .agg #[.int .i64 (rc km k3_ 0), .int .i64 (rc km k3_ 1), .int .i64 (rc km k3_ 2)]) hF (by kernel_rfl) (yld_roM (A := E4) (j := k3_ * 3) (us := [.int .i64 (rc km k3_ 0), .int .i64 (rc km k3_ 1), .int .i64 (rc km k3_ 2)]) hF rfl (by kernel_rfl) (by kernel_rfl) (roK 8 rfl) (by kernel_rfl) rfl (rc_sub (k := k3_) (f := 0) (m := 3) gW4 (by omega) (by decide) rfl)) fun a hF => ?_
              refine eQ2 121 (v := .bool (!decide ([rc lm k3_ 0, rc lm k3_ 1, rc lm k3_ 2] = [rc km k3_ 0, rc km k3_ 1, rc km k3_ 2]))) hF (by kernel_rfl) (yld_neq (C := Mem _ _ _) [rc lm k3_ 0, rc lm k3_ 1, rc lm k3_ 2] [rc km k3_ 0, rc km k3_ 1, rc km k3_ 2] hF rfl (by kernel_rfl) (by kernel_rfl) (by kernel_rfl) rfl (by kernel_rfl) (by kernel_rfl) (by kernel_rfl) rfl rfl) fun a hF => ?_
              refine wpQuiet_nil ?_
              intro w hM
              refine hK34 _ _ ?_
              by_cases hz21 : [rc lm k3_ 0, rc lm k3_ 1, rc lm k3_ 2] = [rc km k3_ 0, rc km k3_ 1, rc km k3_ 2]
              ·skip
               replace hF := hF.c hF (i := 121) (v := .bool false) rfl (nT hz21)
               refine cF hF (by kernel_rfl) (by kernel_rfl) ?_
               refine wp_skip ?_
               refine hK33 _ _ ?_
               refine wp_region_lit ?_
               refine sB 1 [(109, .int .i64 (k3_ : Int))] hF (by kernel_rfl) fun a hF => ?_
               refine wl (eP 110 (v0 := .int .i64 (IntKind.i64.wrap ((k3_ : Int) + 1))) (v := .int .i64 ((k3_ : Int) + 1)) hF (by kernel_rfl) (fun _ => by kernel_rfl) (wi (by omega)) fun a hF => ?_)
               refine sB 1 [(8, .int .i64 ((k3_ : Int) + 1))] hF (by kernel_rfl) fun a hF => ?_
               refine wpList_nil ?_
               refine hK30 _ _ ⟨(k3_ + 1), ⟨((((Fr.nil hF).c hF (i := 3) rfl rfl).c hF (i := 2) rfl rfl).c hF (i := 8) rfl (vi (show ((k3_ : Int) + 1 : Int) = ((k3_ + 1) : Int) from by omega))), (hM.sub ((((((((((Sub.nil.c (k := 10) rfl rfl).c (k := 9) rfl rfl).c (k := 8) rfl rfl).c (k := 7) rfl rfl).c (k := 6) rfl rfl).c (k := 5) rfl rfl).c (k := 4) rfl rfl).c (k := 3) rfl rfl).c (k := 2) rfl rfl).c (k := 1) rfl rfl)), (show ((k3_ + 1) : Int) ≤ (lm.length : Int) from by omega), (show ∀ j, j < (k3_ + 1) → lm[j]? = km[j]? from by exact all_next (by assumption) (rec_eq (n := 3) hW4 gW4 (by omega) (by omega) (by first | exact hz21 | omega)))⟩, (show lm.length - (k3_ + 1) < lm.length - k3_ from by omega)⟩
              ·skip
               replace hF := hF.c hF (i := 121) (v := .bool true) rfl (nF hz21)
               refine cT hF (by kernel_rfl) (by kernel_rfl) ?_
               refine wp_seq_k fun K35 hK35 => ?_
               refine wp_region_lit ?_
               refine sB 1 [(4, .bool false)] hF (by kernel_rfl) fun a hF => ?_
               refine wpList_nil ?_
               refine hK35 _ _ ?_
               refine wp_ret ?_
               refine hR0 _ _ ?_
               refine ret_of hF hM (.tmp rfl (.nil)) ?_
               exact ⟨ret_bool (decide_eq_false (fun z => hz21 (by simp only [z.1, z.2.1, z.2.2.2.1, z.2.2.2.2]))).symm, hM.bel⟩
             ·skip
              replace hF := hF.c hF (i := 108) (v := .bool false) rfl (bF hz20)
              refine cF hF (by kernel_rfl) (by kernel_rfl) ?_
              refine wp_exit ?_
              refine hK28 _ _ ?_
              refine wp_seq_k fun K36 hK36 => ?_
              refine wp_region_lit ?_
              refine sB 1 [(4, .bool true)] hF (by kernel_rfl) fun a hF => ?_
              refine wpList_nil ?_
              refine hK36 _ _ ?_
              refine wp_ret ?_
              refine hR0 _ _ ?_
              refine ret_of hF hM (.tmp rfl (.nil)) ?_
              exact ⟨ret_bool (decide_eq_true ⟨(all_eq (by omega) (fun j hj => ‹∀ j, j < k0_ → la[j]? = ka[j]?› j (by omega))), (all_eq (by omega) (fun j hj => ‹∀ j, j < k2_ → lq[j]? = kq[j]?› j (by omega))), by omega, (all_eq (by omega) (fun j hj => ‹∀ j, j < k1_ → ls[j]? = ks[j]?› j (by omega))), (all_eq (by omega) (fun j hj => ‹∀ j, j < k3_ → lm[j]? = km[j]?› j (by omega)))⟩).symm, hM.bel⟩
     ·skip
      replace hF := hF.c hF (i := 48) (v := .bool true) rfl (nF hz5)
      replace hF := hF.c hF (i := 49) (v := .bool true) rfl (nF hz5)
      refine cT hF (by kernel_rfl) (by kernel_rfl) ?_
      refine wp_seq_k fun K37 hK37 => ?_
      refine wp_region_lit ?_
      refine sB 1 [(4, .bool false)] hF (by kernel_rfl) fun a hF => ?_
      refine wpList_nil ?_
      refine hK37 _ _ ?_
      refine wp_ret ?_
      refine hR0 _ _ ?_
      refine ret_of hF hM (.tmp rfl (.nil)) ?_
      refine ⟨ret_bool (decide_eq_false (fun z => ?_)).symm, hM.bel⟩
      obtain ⟨z1, z2, z3, z4, z5⟩ := z
      first | (have := congrArg List.length z1; have := congrArg List.length z2; have := congrArg List.length z4; have := congrArg List.length z5; omega) | (rw [z4] at *; omega)
    ·skip
     refine wp_region_lit ?_
     refine sB 1 [(9, .pointer (some ⟨bb1, 2, none⟩))] hF (by kernel_rfl) fun a hF => ?_
     refine wl (eL 10 9 2 (v := .int .i64 now) hF hM (by kernel_rfl) rfl rfl (by kernel_rfl) (by kernel_rfl) fun a w hF hM => ?_)
     refine sB 1 [(11, .pointer (some ⟨bb2, 2, none⟩))] hF (by kernel_rfl) fun a hF => ?_
     refine wl (eL 12 10 2 (v := .int .i64 know) hF hM (by kernel_rfl) rfl rfl (by kernel_rfl) (by kernel_rfl) fun a w hF hM => ?_)
     refine wl (eP 13 (v0 := .bool (!decide (now = know))) (v := .bool false) hF (by kernel_rfl) (fun _ => by kernel_rfl) (nT hz1) fun a hF => ?_)
     refine sB 2 [(14, .bool false), (15, .pointer (some ⟨bb1, 0, none⟩))] hF (by kernel_rfl) fun a hF => ?_
     refine wl (eL 16 9 0 (v := .slice A la.length ca) hF hM (by kernel_rfl) rfl rfl (by kernel_rfl) (by kernel_rfl) fun a w hF hM => ?_)
     refine sB 2 [(17, .int .i64 (la.length : Int)), (18, .pointer (some ⟨bb2, 0, none⟩))] hF (by kernel_rfl) fun a hF => ?_
     refine wl (eL 19 10 0 (v := .slice E1 ka.length da) hF hM (by kernel_rfl) rfl rfl (by kernel_rfl) (by kernel_rfl) fun a w hF hM => ?_)
     refine sB 1 [(20, .int .i64 (ka.length : Int))] hF (by kernel_rfl) fun a hF => ?_
     refine wl (eP 21 (v0 := .bool (!decide ((la.length : Int) = (ka.length : Int)))) (v := .bool false) hF (by kernel_rfl) (fun _ => by kernel_rfl) (nT hz2) fun a hF => ?_)
     refine sB 3 [(22, .bool false), (23, .bool false), (24, .pointer (some ⟨bb1, 1, none⟩))] hF (by kernel_rfl) fun a hF => ?_
     refine wl (eL 25 9 1 (v := .slice A2 lq.length cq_) hF hM (by kernel_rfl) rfl rfl (by kernel_rfl) (by kernel_rfl) fun a w hF hM => ?_)
     refine sB 2 [(26, .int .i64 (lq.length : Int)), (27, .pointer (some ⟨bb2, 1, none⟩))] hF (by kernel_rfl) fun a hF => ?_
     refine wl (eL 28 10 1 (v := .slice E2 kq.length dq_) hF hM (by kernel_rfl) rfl rfl (by kernel_rfl) (by kernel_rfl) fun a w hF hM => ?_)
     refine sB 1 [(29, .int .i64 (kq.length : Int))] hF (by kernel_rfl) fun a hF => ?_
     refine wl (eP 30 (v0 := .bool (!decide ((lq.length : Int) = (kq.length : Int)))) (v := .bool false) hF (by kernel_rfl) (fun _ => by kernel_rfl) (nT hz3) fun a hF => ?_)
     refine sB 3 [(31, .bool false), (32, .bool false), (33, .pointer (some ⟨bb1, 3, none⟩))] hF (by kernel_rfl) fun a hF => ?_
     refine wl (eL 34 9 3 (v := .slice A3 ls.length cs) hF hM (by kernel_rfl) rfl rfl (by kernel_rfl) (by kernel_rfl) fun a w hF hM => ?_)
     refine sB 2 [(35, .int .i64 (ls.length : Int)), (36, .pointer (some ⟨bb2, 3, none⟩))] hF (by kernel_rfl) fun a hF => ?_
     refine wl (eL 37 10 3 (v := .slice E3 ks.length ds) hF hM (by kernel_rfl) rfl rfl (by kernel_rfl) (by kernel_rfl) fun a w hF hM => ?_)
     refine sB 1 [(38, .int .i64 (ks.length : Int))] hF (by kernel_rfl) fun a hF => ?_
     refine wl (eP 39 (v0 := .bool (!decide ((ls.length : Int) = (ks.length : Int)))) (v := .bool true) hF (by kernel_rfl) (fun _ => by kernel_rfl) (nF hz4) fun a hF => ?_)
     refine sB 10 [(40, .bool true), (41, .bool true), (42, undef), (43, undef), (44, undef), (45, undef), (46, undef), (47, undef), (48, undef), (49, .bool true)] hF (by kernel_rfl) fun a hF => ?_
     refine wpList_nil ?_
     refine hK3 _ _ ?_
     refine cT hF (by kernel_rfl) (by kernel_rfl) ?_
     refine wp_seq_k fun K38 hK38 => ?_
     refine wp_region_lit ?_
     refine sB 1 [(4, .bool false)] hF (by kernel_rfl) fun a hF => ?_
     refine wpList_nil ?_
     refine hK38 _ _ ?_
     refine wp_ret ?_
     refine hR0 _ _ ?_
     refine ret_of hF hM (.tmp rfl (.nil)) ?_
     refine ⟨ret_bool (decide_eq_false (fun z => ?_)).symm, hM.bel⟩
     obtain ⟨z1, z2, z3, z4, z5⟩ := z
     first | (have := congrArg List.length z1; have := congrArg List.length z2; have := congrArg List.length z4; have := congrArg List.length z5; omega) | (rw [z4] at *; omega)
   ·skip
    refine wp_region_lit ?_
    refine sB 1 [(9, .pointer (some ⟨bb1, 2, none⟩))] hF (by kernel_rfl) fun a hF => ?_
    refine wl (eL 10 9 2 (v := .int .i64 now) hF hM (by kernel_rfl) rfl rfl (by kernel_rfl) (by kernel_rfl) fun a w hF hM => ?_)
    refine sB 1 [(11, .pointer (some ⟨bb2, 2, none⟩))] hF (by kernel_rfl) fun a hF => ?_
    refine wl (eL 12 10 2 (v := .int .i64 know) hF hM (by kernel_rfl) rfl rfl (by kernel_rfl) (by kernel_rfl) fun a w hF hM => ?_)
    refine wl (eP 13 (v0 := .bool (!decide (now = know))) (v := .bool false) hF (by kernel_rfl) (fun _ => by kernel_rfl) (nT hz1) fun a hF => ?_)
    refine sB 2 [(14, .bool false), (15, .pointer (some ⟨bb1, 0, none⟩))] hF (by kernel_rfl) fun a hF => ?_
    refine wl (eL 16 9 0 (v := .slice A la.length ca) hF hM (by kernel_rfl) rfl rfl (by kernel_rfl) (by kernel_rfl) fun a w hF hM => ?_)
    refine sB 2 [(17, .int .i64 (la.length : Int)), (18, .pointer (some ⟨bb2, 0, none⟩))] hF (by kernel_rfl) fun a hF => ?_
    refine wl (eL 19 10 0 (v := .slice E1 ka.length da) hF hM (by kernel_rfl) rfl rfl (by kernel_rfl) (by kernel_rfl) fun a w hF hM => ?_)
    refine sB 1 [(20, .int .i64 (ka.length : Int))] hF (by kernel_rfl) fun a hF => ?_
    refine wl (eP 21 (v0 := .bool (!decide ((la.length : Int) = (ka.length : Int)))) (v := .bool false) hF (by kernel_rfl) (fun _ => by kernel_rfl) (nT hz2) fun a hF => ?_)
    refine sB 3 [(22, .bool false), (23, .bool false), (24, .pointer (some ⟨bb1, 1, none⟩))] hF (by kernel_rfl) fun a hF => ?_
    refine wl (eL 25 9 1 (v := .slice A2 lq.length cq_) hF hM (by kernel_rfl) rfl rfl (by kernel_rfl) (by kernel_rfl) fun a w hF hM => ?_)
    refine sB 2 [(26, .int .i64 (lq.length : Int)), (27, .pointer (some ⟨bb2, 1, none⟩))] hF (by kernel_rfl) fun a hF => ?_
    refine wl (eL 28 10 1 (v := .slice E2 kq.length dq_) hF hM (by kernel_rfl) rfl rfl (by kernel_rfl) (by kernel_rfl) fun a w hF hM => ?_)
    refine sB 1 [(29, .int .i64 (kq.length : Int))] hF (by kernel_rfl) fun a hF => ?_
    refine wl (eP 30 (v0 := .bool (!decide ((lq.length : Int) = (kq.length : Int)))) (v := .bool true) hF (by kernel_rfl) (fun _ => by kernel_rfl) (nF hz3) fun a hF => ?_)
    refine sB 19 [(31, .bool true), (32, .bool true), (33, undef), (34, undef), (35, undef), (36, undef), (37, undef), (38, undef), (39, undef), (40, .bool true), (41, .bool true), (42, undef), (43, undef), (44, undef), (45, undef), (46, undef), (47, undef), (48, undef), (49, .bool true)] hF (by kernel_rfl) fun a hF => ?_
    refine wpList_nil ?_
    refine hK3 _ _ ?_
    refine cT hF (by kernel_rfl) (by kernel_rfl) ?_
    refine wp_seq_k fun K39 hK39 => ?_
    refine wp_region_lit ?_
    refine sB 1 [(4, .bool false)] hF (by kernel_rfl) fun a hF => ?_
    refine wpList_nil ?_
    refine hK39 _ _ ?_
    refine wp_ret ?_
    refine hR0 _ _ ?_
    refine ret_of hF hM (.tmp rfl (.nil)) ?_
    refine ⟨ret_bool (decide_eq_false (fun z => ?_)).symm, hM.bel⟩
    obtain ⟨z1, z2, z3, z4, z5⟩ := z
    first | (have := congrArg List.length z1; have := congrArg List.length z2; have := congrArg List.length z4; have := congrArg List.length z5; omega) | (rw [z4] at *; omega)
  ·skip
   refine wp_region_lit ?_
   refine sB 1 [(9, .pointer (some ⟨bb1, 2, none⟩))] hF (by kernel_rfl) fun a hF => ?_
   refine wl (eL 10 9 2 (v := .int .i64 now) hF hM (by kernel_rfl) rfl rfl (by kernel_rfl) (by kernel_rfl) fun a w hF hM => ?_)
   refine sB 1 [(11, .pointer (some ⟨bb2, 2, none⟩))] hF (by kernel_rfl) fun a hF => ?_
   refine wl (eL 12 10 2 (v := .int .i64 know) hF hM (by kernel_rfl) rfl rfl (by kernel_rfl) (by kernel_rfl) fun a w hF hM => ?_)
   refine wl (eP 13 (v0 := .bool (!decide (now = know))) (v := .bool false) hF (by kernel_rfl) (fun _ => by kernel_rfl) (nT hz1) fun a hF => ?_)
   refine sB 2 [(14, .bool false), (15, .pointer (some ⟨bb1, 0, none⟩))] hF (by kernel_rfl) fun a hF => ?_
   refine wl (eL 16 9 0 (v := .slice A la.length ca) hF hM (by kernel_rfl) rfl rfl (by kernel_rfl) (by kernel_rfl) fun a w hF hM => ?_)
   refine sB 2 [(17, .int .i64 (la.length : Int)), (18, .pointer (some ⟨bb2, 0, none⟩))] hF (by kernel_rfl) fun a hF => ?_
   refine wl (eL 19 10 0 (v := .slice E1 ka.length da) hF hM (by kernel_rfl) rfl rfl (by kernel_rfl) (by kernel_rfl) fun a w hF hM => ?_)
   refine sB 1 [(20, .int .i64 (ka.length : Int))] hF (by kernel_rfl) fun a hF => ?_
   refine wl (eP 21 (v0 := .bool (!decide ((la.length : Int) = (ka.length : Int)))) (v := .bool true) hF (by kernel_rfl) (fun _ => by kernel_rfl) (nF hz2) fun a hF => ?_)
   refine sB 28 [(22, .bool true), (23, .bool true), (24, undef), (25, undef), (26, undef), (27, undef), (28, undef), (29, undef), (30, undef), (31, .bool true), (32, .bool true), (33, undef), (34, undef), (35, undef), (36, undef), (37, undef), (38, undef), (39, undef), (40, .bool true), (41, .bool true), (42, undef), (43, undef), (44, undef), (45, undef), (46, undef), (47, undef), (48, undef), (49, .bool true)] hF (by kernel_rfl) fun a hF => ?_
   refine wpList_nil ?_
   refine hK3 _ _ ?_
   refine cT hF (by kernel_rfl) (by kernel_rfl) ?_
   refine wp_seq_k fun K40 hK40 => ?_
   refine wp_region_lit ?_
   refine sB 1 [(4, .bool false)] hF (by kernel_rfl) fun a hF => ?_
   refine wpList_nil ?_
   refine hK40 _ _ ?_
   refine wp_ret ?_
   refine hR0 _ _ ?_
   refine ret_of hF hM (.tmp rfl (.nil)) ?_
   refine ⟨ret_bool (decide_eq_false (fun z => ?_)).symm, hM.bel⟩
   obtain ⟨z1, z2, z3, z4, z5⟩ := z
   first | (have := congrArg List.length z1; have := congrArg List.length z2; have := congrArg List.length z4; have := congrArg List.length z5; omega) | (rw [z4] at *; omega)
 ·skip
  refine wp_region_lit ?_
  refine sB 1 [(9, .pointer (some ⟨bb1, 2, none⟩))] hF (by kernel_rfl) fun a hF => ?_
  refine wl (eL 10 9 2 (v := .int .i64 now) hF hM (by kernel_rfl) rfl rfl (by kernel_rfl) (by kernel_rfl) fun a w hF hM => ?_)
  refine sB 1 [(11, .pointer (some ⟨bb2, 2, none⟩))] hF (by kernel_rfl) fun a hF => ?_
  refine wl (eL 12 10 2 (v := .int .i64 know) hF hM (by kernel_rfl) rfl rfl (by kernel_rfl) (by kernel_rfl) fun a w hF hM => ?_)
  refine wl (eP 13 (v0 := .bool (!decide (now = know))) (v := .bool true) hF (by kernel_rfl) (fun _ => by kernel_rfl) (nF hz1) fun a hF => ?_)
  refine sB 36 [(14, .bool true), (15, undef), (16, undef), (17, undef), (18, undef), (19, undef), (20, undef), (21, undef), (22, .bool true), (23, .bool true), (24, undef), (25, undef), (26, undef), (27, undef), (28, undef), (29, undef), (30, undef), (31, .bool true), (32, .bool true), (33, undef), (34, undef), (35, undef), (36, undef), (37, undef), (38, undef), (39, undef), (40, .bool true), (41, .bool true), (42, undef), (43, undef), (44, undef), (45, undef), (46, undef), (47, undef), (48, undef), (49, .bool true)] hF (by kernel_rfl) fun a hF => ?_
  refine wpList_nil ?_
  refine hK3 _ _ ?_
  refine cT hF (by kernel_rfl) (by kernel_rfl) ?_
  refine wp_seq_k fun K41 hK41 => ?_
  refine wp_region_lit ?_
  refine sB 1 [(4, .bool false)] hF (by kernel_rfl) fun a hF => ?_
  refine wpList_nil ?_
  refine hK41 _ _ ?_
  refine wp_ret ?_
  refine hR0 _ _ ?_
  refine ret_of hF hM (.tmp rfl (.nil)) ?_
  refine ⟨ret_bool (decide_eq_false (fun z => ?_)).symm, hM.bel⟩
  obtain ⟨z1, z2, z3, z4, z5⟩ := z
  first | (have := congrArg List.length z1; have := congrArg List.length z2; have := congrArg List.length z4; have := congrArg List.length z5; omega) | (rw [z4] at *; omega)

end Go.Proofs.Ytogeficooemngaa
