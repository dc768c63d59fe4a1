/-
  filter.Find.
-/
import Derived.Test.YtogeficooemngaaFiG
namespace Go.Proofs.Ytogeficooemngaa
open Go.RowKit
set_option linter.unusedVariables false
set_option linter.unusedSimpArgs false

theorem fl_case {la lq lm : List (List Int)} {now : Int} {ls : List Int} (h : ¬ flE la lq now ls lm = 0) : flE la lq now ls lm = 430 := by
  unfold flE at *
  split at h
  · exact absurd rfl h
  · rename_i q; rw [if_neg q]
theorem fl_p {la lq lm : List (List Int)} {now : Int} {ls : List Int} (h : flE la lq now ls lm = 0) : flP la lq now ls lm := by
  unfold flE at h
  split at h
  · assumption
  · cases h
def fnE (la lq : List (List Int)) (now : Int) (ls : List Int) (lm : List (List Int)) (i1 i2 i3 i4 i5 : Int) : Int := if flE la lq now ls lm = 0 then (if viB i1 i2 i3 i4 i5 = true then 0 else 460) else 430
def fnV (la lq : List (List Int)) (now : Int) (ls : List Int) (lm : List (List Int)) (port i1 i2 i3 i4 i5 : Int) : Int := if fnE la lq now ls lm i1 i2 i3 i4 i5 = 0 then regI port i1 i3 la else 0
set_option maxRecDepth 100000 in
theorem fiFind_w (A : Option Addr) (la : List (List Int)) (ca : Nat) (A2 : Option Addr) (lq : List (List Int)) (cq_ : Nat) (now : Int) (A3 : Option Addr) (ls : List Int) (cs : Nat) (A4 : Option Addr) (lm : List (List Int)) (cm : Nat) (port i1 i2 i3 i4 i5 : Int) (w0 : World) (hA : Ro w0 A (flatR la)) (hW : WR 7 la) (hA2 : Ro w0 A2 (flatR lq)) (hW2 : WR 5 lq) (hA3 : Ro w0 A3 (ls.map (Value.int .i64))) (hA4 : Ro w0 A4 (flatR lm)) (hW4 : WR 3 lm) :
    Calls Try.prog 16 #[.agg #[.slice A la.length ca, .slice A2 lq.length cq_, .int .i64 now, .slice A3 ls.length cs, .slice A4 lm.length cm], .int .i64 port, .agg #[.int .i64 i1, .int .i64 i2, .int .i64 i3, .int .i64 i4, .int .i64 i5]] w0 (Ret w0 (.tuple #[.int .i64 (fnV la lq now ls lm port i1 i2 i3 i4 i5), .int .i64 (fnE la lq now ls lm i1 i2 i3 i4 i5)])) := by
 refine enterK 22 Try.func16 rfl rfl rfl ?_
 intro a hF Q0 hR0 hN0
 have hM := Mem.start w0
 replace hM := hM.addOld 1 hA (Nat.le_refl _)
 replace hM := hM.addOld 2 hA2 (Nat.le_refl _)
 replace hM := hM.addOld 3 hA3 (Nat.le_refl _)
 replace hM := hM.addOld 4 hA4 (Nat.le_refl _)
 refine wp_seq_k fun K1 hK1 => ?_
 refine wp_region_lit ?_
 refine wl (eN 3 5 (t := 27) (fun b => .pointer (some ⟨b, 0, none⟩)) #[.slice A la.length ca, .slice A2 lq.length cq_, .int .i64 now, .slice A3 ls.length cs, .slice A4 lm.length cm] hF hM (by kernel_rfl) (fun _ => by kernel_rfl) fun bb1 a w hF hM => ?_)
 refine wl (eN 5 6 (t := 39) (fun b => .pointer (some ⟨b, 0, none⟩)) #[.int .i64 i1, .int .i64 i2, .int .i64 i3, .int .i64 i4, .int .i64 i5] hF hM (by kernel_rfl) (fun _ => by kernel_rfl) fun bb2 a w hF hM => ?_)
 refine sB 2 [(6, .int .i64 0), (7, .int .i64 0)] hF (by kernel_rfl) fun a hF => ?_
 refine wpList_nil ?_
 refine hK1 _ _ ?_
 refine wp_seq_k fun K2 hK2 => ?_
 refine wp_seq_k fun K3 hK3 => ?_
 refine wp_region_lit ?_
 refine wl (eL 9 5 0 (v := .agg #[.slice A la.length ca, .slice A2 lq.length cq_, .int .i64 now, .slice A3 ls.length cs, .slice A4 lm.length cm]) hF hM (by kernel_rfl) rfl rfl (by kernel_rfl) (by kernel_rfl) fun a w hF hM => ?_)
 refine wl (eM 10 (v := .int .i64 (flE la lq now ls lm)) hF hM (by kernel_rfl) (yld_call (f := 12) (args := #[.agg #[.slice A la.length ca, .slice A2 lq.length cq_, .int .i64 now, .slice A3 ls.length cs, .slice A4 lm.length cm]]) hF (by kernel_rfl) (fun _ => by kernel_rfl) (fun w hM => fiCheck_w A la _ A2 lq _ now A3 ls _ A4 lm _ w (hM.ok 1 _ rfl) hW (hM.ok 2 _ rfl) hW2 (hM.ok 3 _ rfl) (hM.ok 4 _ rfl) hW4)) fun a w hF hM => ?_)
 refine sB 1 [(8, .int .i64 (flE la lq now ls lm))] hF (by kernel_rfl) fun a hF => ?_
 refine wpList_nil ?_
 refine hK3 _ _ ?_
 refine wp_seq_k fun K4 hK4 => ?_
 refine wp_region_lit ?_
 refine sB 2 [(11, .int .i64 (flE la lq now ls lm)), (12, .bool (!decide (flE la lq now ls lm = 0)))] hF (by kernel_rfl) fun a hF => ?_
 refine wpList_nil ?_
 refine hK4 _ _ ?_
 by_cases hz1 : flE la lq now ls lm = 0
 ·skip
  replace hF := hF.c hF (i := 12) (v := .bool false) rfl (nT hz1)
  refine cF hF (by kernel_rfl) (by kernel_rfl) ?_
  refine wp_skip ?_
  refine hK2 _ _ ?_
  refine wp_seq_k fun K5 hK5 => ?_
  refine wp_seq_k fun K6 hK6 => ?_
  cases hz2 : (viB i1 i2 i3 i4 i5)
  ·skip
   refine wp_region_lit ?_
   refine wl (eL 14 6 0 (v := .agg #[.int .i64 i1, .int .i64 i2, .int .i64 i3, .int .i64 i4, .int .i64 i5]) hF hM (by kernel_rfl) rfl rfl (by kernel_rfl) (by kernel_rfl) fun a w hF hM => ?_)
   refine wl (eM 15 (v := .bool false) hF hM (by kernel_rfl) (Yld.to (yld_call (f := 35) (args := #[.agg #[.int .i64 i1, .int .i64 i2, .int .i64 i3, .int .i64 i4, .int .i64 i5]]) hF (by kernel_rfl) (fun _ => by kernel_rfl) (fun w hM => validItem_w i1 i2 i3 i4 i5 w)) (congrArg Value.bool hz2)) fun a w hF hM => ?_)
   refine sB 1 [(16, .bool true)] hF (by kernel_rfl) fun a hF => ?_
   refine wpList_nil ?_
   refine hK6 _ _ ?_
   refine cT hF (by kernel_rfl) (by kernel_rfl) ?_
   refine wp_seq_k fun K7 hK7 => ?_
   refine wp_region_lit ?_
   refine sB 2 [(6, .int .i64 0), (7, .int .i64 460)] hF (by kernel_rfl) fun a hF => ?_
   refine wpList_nil ?_
   refine hK7 _ _ ?_
   refine wp_ret ?_
   refine hR0 _ _ ?_
   refine ret_of hF hM (.tmp rfl (.tmp rfl (.nil))) ?_
   have he : fnE la lq now ls lm i1 i2 i3 i4 i5 = 460 := by unfold fnE; rw [if_pos hz1, hz2]; rfl
   exact ⟨ret_eq (by unfold fnV; rw [he, if_neg (by decide)]; rfl), hM.bel⟩
  ·skip
   refine wp_region_lit ?_
   refine wl (eL 14 6 0 (v := .agg #[.int .i64 i1, .int .i64 i2, .int .i64 i3, .int .i64 i4, .int .i64 i5]) hF hM (by kernel_rfl) rfl rfl (by kernel_rfl) (by kernel_rfl) fun a w hF hM => ?_)
   refine wl (eM 15 (v := .bool true) hF hM (by kernel_rfl) (Yld.to (yld_call (f := 35) (args := #[.agg #[.int .i64 i1, .int .i64 i2, .int .i64 i3, .int .i64 i4, .int .i64 i5]]) hF (by kernel_rfl) (fun _ => by kernel_rfl) (fun w hM => validItem_w i1 i2 i3 i4 i5 w)) (congrArg Value.bool hz2)) fun a w hF hM => ?_)
   refine sB 1 [(16, .bool false)] hF (by kernel_rfl) fun a hF => ?_
   refine wpList_nil ?_
   refine hK6 _ _ ?_
   refine cF hF (by kernel_rfl) (by kernel_rfl) ?_
   refine wp_skip ?_
   refine hK5 _ _ ?_
   refine wp_seq_k fun K8 hK8 => ?_
   refine wp_region_lit ?_
   refine wl (eL 17 5 0 (v := .agg #[.slice A la.length ca, .slice A2 lq.length cq_, .int .i64 now, .slice A3 ls.length cs, .slice A4 lm.length cm]) hF hM (by kernel_rfl) rfl rfl (by kernel_rfl) (by kernel_rfl) fun a w hF hM => ?_)
   refine sB 2 [(18, .agg #[.slice A la.length ca, .slice A2 lq.length cq_, .int .i64 now, .slice A3 ls.length cs, .slice A4 lm.length cm]), (19, .int .i64 port)] hF (by kernel_rfl) fun a hF => ?_
   refine wl (eL 20 6 0 (v := .agg #[.int .i64 i1, .int .i64 i2, .int .i64 i3, .int .i64 i4, .int .i64 i5]) hF hM (by kernel_rfl) rfl rfl (by kernel_rfl) (by kernel_rfl) fun a w hF hM => ?_)
   refine wl (eM 21 (v := .int .i64 (regI port i1 i3 la)) hF hM (by kernel_rfl) (yld_call (f := 36) (args := #[.agg #[.slice A la.length ca, .slice A2 lq.length cq_, .int .i64 now, .slice A3 ls.length cs, .slice A4 lm.length cm], .int .i64 port, .agg #[.int .i64 i1, .int .i64 i2, .int .i64 i3, .int .i64 i4, .int .i64 i5]]) hF (by kernel_rfl) (fun _ => by kernel_rfl) (fun w hM => registration_w A la _ A2 lq _ now A3 ls _ A4 lm _ port i1 i2 i3 i4 i5 w (hM.ok 1 _ rfl) hW (hM.ok 2 _ rfl) hW2 (hM.ok 3 _ rfl) (hM.ok 4 _ rfl) hW4 (li_le (fl_p hz1).1).1)) fun a w hF hM => ?_)
   refine sB 2 [(6, .int .i64 (regI port i1 i3 la)), (7, .int .i64 0)] hF (by kernel_rfl) fun a hF => ?_
   refine wpList_nil ?_
   refine hK8 _ _ ?_
   refine wp_ret ?_
   refine hR0 _ _ ?_
   refine ret_of hF hM (.tmp rfl (.tmp rfl (.nil))) ?_
   have he : fnE la lq now ls lm i1 i2 i3 i4 i5 = 0 := by unfold fnE; rw [if_pos hz1, if_pos hz2]
   exact ⟨ret_eq (by unfold fnV; rw [he, if_pos rfl]; rfl), hM.bel⟩
 ·skip
  replace hF := hF.c hF (i := 12) (v := .bool true) rfl (nF hz1)
  refine cT hF (by kernel_rfl) (by kernel_rfl) ?_
  refine wp_seq_k fun K9 hK9 => ?_
  refine wp_region_lit ?_
  refine sB 3 [(13, .int .i64 (flE la lq now ls lm)), (6, .int .i64 0), (7, .int .i64 (flE la lq now ls lm))] hF (by kernel_rfl) fun a hF => ?_
  refine wpList_nil ?_
  refine hK9 _ _ ?_
  refine wp_ret ?_
  refine hR0 _ _ ?_
  refine ret_of hF hM (.tmp rfl (.tmp rfl (.nil))) ?_
  have he : fnE la lq now ls lm i1 i2 i3 i4 i5 = 430 := by unfold fnE; rw [if_neg hz1]
  exact ⟨ret_eq (by unfold fnV; rw [he, fl_case hz1, if_neg (by decide)]; rfl), hM.bel⟩

end Go.Proofs.Ytogeficooemngaa
