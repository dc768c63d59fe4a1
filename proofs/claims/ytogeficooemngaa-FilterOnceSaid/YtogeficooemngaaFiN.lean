/-
  filter.Pass.
-/
import Derived.Test.YtogeficooemngaaFiM
namespace Go.Proofs.Ytogeficooemngaa
open Go.RowKit
set_option linter.unusedVariables false
set_option linter.unusedSimpArgs false

set_option maxRecDepth 100000 in
set_option maxHeartbeats 4000000 in
theorem fiPass_no (A : Option Addr) (la : List (List Int)) (ca : Nat) (A2 : Option Addr) (lq : List (List Int)) (cq_ : Nat) (now : Int) (A3 : Option Addr) (ls : List Int) (cs : Nat) (A4 : Option Addr) (lm : List (List Int)) (cm : Nat) (port i1 i2 i3 i4 i5 t : Int) (w0 : World) (hA : Ro w0 A (flatR la)) (hW : WR 7 la) (hA2 : Ro w0 A2 (flatR lq)) (hW2 : WR 5 lq) (hA3 : Ro w0 A3 (ls.map (Value.int .i64))) (hA4 : Ro w0 A4 (flatR lm)) (hW4 : WR 3 lm) (h : ¬ psE la lq now ls lm port i1 i2 i3 i4 i5 t = 0) :
    Calls Try.prog 17 #[.agg #[.slice A la.length ca, .slice A2 lq.length cq_, .int .i64 now, .slice A3 ls.length cs, .slice A4 lm.length cm], .int .i64 port, .agg #[.int .i64 i1, .int .i64 i2, .int .i64 i3, .int .i64 i4, .int .i64 i5], .int .i64 t] w0 (Ret w0 (.tuple #[.agg #[.slice none 0 0, .slice none 0 0, .int .i64 0, .slice none 0 0, .slice none 0 0], .int .i64 0, .int .i64 (psE la lq now ls lm port i1 i2 i3 i4 i5 t)])) := by
 refine enterK 58 Try.func17 rfl rfl rfl ?_
 intro a hF Q0 hR0 hN0
 have hM := Mem.start w0
 replace hM := hM.addOld 1 hA (Nat.le_refl _)
 replace hM := hM.addOld 2 hA2 (Nat.le_refl _)
 replace hM := hM.addOld 3 hA3 (Nat.le_refl _)
 replace hM := hM.addOld 4 hA4 (Nat.le_refl _)
 refine wp_seq_k fun K1 hK1 => ?_
 refine wp_region_lit ?_
 refine wl (eN 4 5 (t := 27) (fun b => .pointer (some ⟨b, 0, none⟩)) #[.slice A la.length ca, .slice A2 lq.length cq_, .int .i64 now, .slice A3 ls.length cs, .slice A4 lm.length cm] hF hM (by kernel_rfl) (fun _ => by kernel_rfl) fun bb1 a w hF hM => ?_)
 refine wl (eN 6 6 (t := 39) (fun b => .pointer (some ⟨b, 0, none⟩)) #[.int .i64 i1, .int .i64 i2, .int .i64 i3, .int .i64 i4, .int .i64 i5] hF hM (by kernel_rfl) (fun _ => by kernel_rfl) fun bb2 a w hF hM => ?_)
 refine wl (eN 8 7 (t := 27) (fun b => .pointer (some ⟨b, 0, none⟩)) #[.slice none 0 0, .slice none 0 0, .int .i64 0, .slice none 0 0, .slice none 0 0] hF hM (by kernel_rfl) (fun _ => by kernel_rfl) fun bb3 a w hF hM => ?_)
 refine sB 2 [(9, .int .i64 0), (10, .int .i64 0)] hF (by kernel_rfl) fun a hF => ?_
 refine wpList_nil ?_
 refine hK1 _ _ ?_
 refine wp_seq_k fun K2 hK2 => ?_
 refine wp_seq_k fun K3 hK3 => ?_
 refine wp_region_lit ?_
 refine wl (eL 15 5 0 (v := .agg #[.slice A la.length ca, .slice A2 lq.length cq_, .int .i64 now, .slice A3 ls.length cs, .slice A4 lm.length cm]) hF hM (by kernel_rfl) rfl rfl (by kernel_rfl) (by kernel_rfl) fun a w hF hM => ?_)
 refine wl (eM 16 (v := .int .i64 (flE la lq now ls lm)) hF hM (by kernel_rfl) (yld_call (f := 12) (args := #[.agg #[.slice A la.length ca, .slice A2 lq.length cq_, .int .i64 now, .slice A3 ls.length cs, .slice A4 lm.length cm]]) hF (by kernel_rfl) (fun _ => by kernel_rfl) (fun w hM => fiCheck_x A la ca A2 lq cq_ now A3 ls cs A4 lm cm w (hM.ok 1 _ rfl) hW (hM.ok 2 _ rfl) hW2 (hM.ok 3 _ rfl) (hM.ok 4 _ rfl) hW4 rfl rfl rfl rfl)) fun a w hF hM => ?_)
 refine sB 1 [(11, .int .i64 (flE la lq now ls lm))] hF (by kernel_rfl) fun a hF => ?_
 refine wpList_nil ?_
 refine hK3 _ _ ?_
 refine wp_seq_k fun K4 hK4 => ?_
 refine wp_region_lit ?_
 refine sB 2 [(17, .int .i64 (flE la lq now ls lm)), (18, .bool (!decide (flE la lq now ls lm = 0)))] hF (by kernel_rfl) fun a hF => ?_
 refine wpList_nil ?_
 refine hK4 _ _ ?_
 by_cases hz1 : flE la lq now ls lm = 0
 ·skip
  replace hF := hF.c hF (i := 18) (v := .bool false) rfl (nT hz1)
  refine cF hF (by kernel_rfl) (by kernel_rfl) ?_
  refine wp_skip ?_
  refine hK2 _ _ ?_
  refine wp_seq_k fun K5 hK5 => ?_
  refine wp_seq_k fun K6 hK6 => ?_
  by_cases hz2 : 0 ≤ port
  ·skip
   by_cases hz3 : port ≤ 47
   ·skip
    refine wp_region_lit ?_
    refine sB 1 [(21, .int .i64 port)] hF (by kernel_rfl) fun a hF => ?_
    refine wl (eM 22 (v := .bool true) hF hM (by kernel_rfl) (yld_call (f := 31) (args := #[.int .i64 port, .int .i64 0, .int .i64 47]) hF (by kernel_rfl) (fun _ => by kernel_rfl) (fun w hM => fiw_yes port 0 47 w hz2 hz3)) fun a w hF hM => ?_)
    refine sB 1 [(23, .bool false)] hF (by kernel_rfl) fun a hF => ?_
    refine wpList_nil ?_
    refine hK6 _ _ ?_
    refine cF hF (by kernel_rfl) (by kernel_rfl) ?_
    refine wp_skip ?_
    refine hK5 _ _ ?_
    refine wp_seq_k fun K7 hK7 => ?_
    refine wp_seq_k fun K8 hK8 => ?_
    cases hz4 : (viB i1 i2 i3 i4 i5)
    ·skip
     refine wp_region_lit ?_
     refine wl (eL 25 6 0 (v := .agg #[.int .i64 i1, .int .i64 i2, .int .i64 i3, .int .i64 i4, .int .i64 i5]) hF hM (by kernel_rfl) rfl rfl (by kernel_rfl) (by kernel_rfl) fun a w hF hM => ?_)
     refine wl (eM 26 (v := .bool false) hF hM (by kernel_rfl) (Yld.to (yld_call (f := 35) (args := #[.agg #[.int .i64 i1, .int .i64 i2, .int .i64 i3, .int .i64 i4, .int .i64 i5]]) hF (by kernel_rfl) (fun _ => by kernel_rfl) (fun w hM => validItem_w i1 i2 i3 i4 i5 w)) (congrArg Value.bool hz4)) fun a w hF hM => ?_)
     refine sB 1 [(27, .bool true)] hF (by kernel_rfl) fun a hF => ?_
     refine wpList_nil ?_
     refine hK8 _ _ ?_
     refine cT hF (by kernel_rfl) (by kernel_rfl) ?_
     refine wp_seq_k fun K9 hK9 => ?_
     refine wp_region_lit ?_
     refine sB 1 [(28, .agg #[.slice none 0 0, .slice none 0 0, .int .i64 0, .slice none 0 0, .slice none 0 0])] hF (by kernel_rfl) fun a hF => ?_
     refine wl (sStore (i := 7) (off := 0) (cs' := #[.slice none 0 0, .slice none 0 0, .int .i64 0, .slice none 0 0, .slice none 0 0]) hF hM (by kernel_rfl) rfl rfl (by kernel_rfl) (by kernel_rfl) rfl (by kernel_rfl) fun w hM => ?_)
     refine sB 2 [(9, .int .i64 0), (10, .int .i64 460)] hF (by kernel_rfl) fun a hF => ?_
     refine wpList_nil ?_
     refine hK9 _ _ ?_
     refine wp_ret ?_
     refine hR0 _ _ ?_
     refine ret_of hF hM (.cell (i := 7) rfl rfl (v := .agg #[.slice none 0 0, .slice none 0 0, .int .i64 0, .slice none 0 0, .slice none 0 0]) (by kernel_rfl) (.tmp rfl (.tmp rfl (.nil)))) ?_
     have he : psE la lq now ls lm port i1 i2 i3 i4 i5 t = 460 := by unfold psE; rw [if_pos hz1, if_pos (by omega), hz4]; rfl
     exact ⟨ret_eq (by rw [he]; rfl), hM.bel⟩
    ·skip
     refine wp_region_lit ?_
     refine wl (eL 25 6 0 (v := .agg #[.int .i64 i1, .int .i64 i2, .int .i64 i3, .int .i64 i4, .int .i64 i5]) hF hM (by kernel_rfl) rfl rfl (by kernel_rfl) (by kernel_rfl) fun a w hF hM => ?_)
     refine wl (eM 26 (v := .bool true) hF hM (by kernel_rfl) (Yld.to (yld_call (f := 35) (args := #[.agg #[.int .i64 i1, .int .i64 i2, .int .i64 i3, .int .i64 i4, .int .i64 i5]]) hF (by kernel_rfl) (fun _ => by kernel_rfl) (fun w hM => validItem_w i1 i2 i3 i4 i5 w)) (congrArg Value.bool hz4)) fun a w hF hM => ?_)
     refine sB 1 [(27, .bool false)] hF (by kernel_rfl) fun a hF => ?_
     refine wpList_nil ?_
     refine hK8 _ _ ?_
     refine cF hF (by kernel_rfl) (by kernel_rfl) ?_
     refine wp_skip ?_
     refine hK7 _ _ ?_
     refine wp_seq_k fun K10 hK10 => ?_
     refine wp_seq_k fun K11 hK11 => ?_
     by_cases hz5 : now ≤ t
     ·skip
      by_cases hz6 : t ≤ 549755813888
      ·skip
       refine wp_region_lit ?_
       refine sB 2 [(29, .int .i64 t), (30, .pointer (some ⟨bb1, 2, none⟩))] hF (by kernel_rfl) fun a hF => ?_
       refine wl (eL 31 5 2 (v := .int .i64 now) hF hM (by kernel_rfl) rfl rfl (by kernel_rfl) (by kernel_rfl) fun a w hF hM => ?_)
       refine wl (eM 32 (v := .bool true) hF hM (by kernel_rfl) (yld_call (f := 31) (args := #[.int .i64 t, .int .i64 now, .int .i64 549755813888]) hF (by kernel_rfl) (fun _ => by kernel_rfl) (fun w hM => fiw_yes t now 549755813888 w hz5 hz6)) fun a w hF hM => ?_)
       refine sB 1 [(33, .bool false)] hF (by kernel_rfl) fun a hF => ?_
       refine wpList_nil ?_
       refine hK11 _ _ ?_
       refine cF hF (by kernel_rfl) (by kernel_rfl) ?_
       refine wp_skip ?_
       refine hK10 _ _ ?_
       refine wp_seq_k fun K12 hK12 => ?_
       exact absurd (show psE la lq now ls lm port i1 i2 i3 i4 i5 t = 0 from by unfold psE; rw [if_pos hz1, if_pos (by omega), if_pos hz4, if_pos (by omega)]) h
      ·skip
       refine wp_region_lit ?_
       refine sB 2 [(29, .int .i64 t), (30, .pointer (some ⟨bb1, 2, none⟩))] hF (by kernel_rfl) fun a hF => ?_
       refine wl (eL 31 5 2 (v := .int .i64 now) hF hM (by kernel_rfl) rfl rfl (by kernel_rfl) (by kernel_rfl) fun a w hF hM => ?_)
       refine wl (eM 32 (v := .bool false) hF hM (by kernel_rfl) (yld_call (f := 31) (args := #[.int .i64 t, .int .i64 now, .int .i64 549755813888]) hF (by kernel_rfl) (fun _ => by kernel_rfl) (fun w hM => fiw_no t now 549755813888 w (.inr hz6))) fun a w hF hM => ?_)
       refine sB 1 [(33, .bool true)] hF (by kernel_rfl) fun a hF => ?_
       refine wpList_nil ?_
       refine hK11 _ _ ?_
       refine cT hF (by kernel_rfl) (by kernel_rfl) ?_
       refine wp_seq_k fun K13 hK13 => ?_
       refine wp_region_lit ?_
       refine sB 1 [(34, .agg #[.slice none 0 0, .slice none 0 0, .int .i64 0, .slice none 0 0, .slice none 0 0])] hF (by kernel_rfl) fun a hF => ?_
       refine wl (sStore (i := 7) (off := 0) (cs' := #[.slice none 0 0, .slice none 0 0, .int .i64 0, .slice none 0 0, .slice none 0 0]) hF hM (by kernel_rfl) rfl rfl (by kernel_rfl) (by kernel_rfl) rfl (by kernel_rfl) fun w hM => ?_)
       refine sB 2 [(9, .int .i64 0), (10, .int .i64 2)] hF (by kernel_rfl) fun a hF => ?_
       refine wpList_nil ?_
       refine hK13 _ _ ?_
       refine wp_ret ?_
       refine hR0 _ _ ?_
       refine ret_of hF hM (.cell (i := 7) rfl rfl (v := .agg #[.slice none 0 0, .slice none 0 0, .int .i64 0, .slice none 0 0, .slice none 0 0]) (by kernel_rfl) (.tmp rfl (.tmp rfl (.nil)))) ?_
       have he : psE la lq now ls lm port i1 i2 i3 i4 i5 t = 2 := by unfold psE; rw [if_pos hz1, if_pos (by omega), if_pos hz4, if_neg (by omega)]
       exact ⟨ret_eq (by rw [he]; rfl), hM.bel⟩
     ·skip
      refine wp_region_lit ?_
      refine sB 2 [(29, .int .i64 t), (30, .pointer (some ⟨bb1, 2, none⟩))] hF (by kernel_rfl) fun a hF => ?_
      refine wl (eL 31 5 2 (v := .int .i64 now) hF hM (by kernel_rfl) rfl rfl (by kernel_rfl) (by kernel_rfl) fun a w hF hM => ?_)
      refine wl (eM 32 (v := .bool false) hF hM (by kernel_rfl) (yld_call (f := 31) (args := #[.int .i64 t, .int .i64 now, .int .i64 549755813888]) hF (by kernel_rfl) (fun _ => by kernel_rfl) (fun w hM => fiw_no t now 549755813888 w (.inl hz5))) fun a w hF hM => ?_)
      refine sB 1 [(33, .bool true)] hF (by kernel_rfl) fun a hF => ?_
      refine wpList_nil ?_
      refine hK11 _ _ ?_
      refine cT hF (by kernel_rfl) (by kernel_rfl) ?_
      refine wp_seq_k fun K14 hK14 => ?_
      refine wp_region_lit ?_
      refine sB 1 [(34, .agg #[.slice none 0 0, .slice none 0 0, .int .i64 0, .slice none 0 0, .slice none 0 0])] hF (by kernel_rfl) fun a hF => ?_
      refine wl (sStore (i := 7) (off := 0) (cs' := #[.slice none 0 0, .slice none 0 0, .int .i64 0, .slice none 0 0, .slice none 0 0]) hF hM (by kernel_rfl) rfl rfl (by kernel_rfl) (by kernel_rfl) rfl (by kernel_rfl) fun w hM => ?_)
      refine sB 2 [(9, .int .i64 0), (10, .int .i64 2)] hF (by kernel_rfl) fun a hF => ?_
      refine wpList_nil ?_
      refine hK14 _ _ ?_
      refine wp_ret ?_
      refine hR0 _ _ ?_
      refine ret_of hF hM (.cell (i := 7) rfl rfl (v := .agg #[.slice none 0 0, .slice none 0 0, .int .i64 0, .slice none 0 0, .slice none 0 0]) (by kernel_rfl) (.tmp rfl (.tmp rfl (.nil)))) ?_
      have he : psE la lq now ls lm port i1 i2 i3 i4 i5 t = 2 := by unfold psE; rw [if_pos hz1, if_pos (by omega), if_pos hz4, if_neg (by omega)]
      exact ⟨ret_eq (by rw [he]; rfl), hM.bel⟩
   ·skip
    refine wp_region_lit ?_
    refine sB 1 [(21, .int .i64 port)] hF (by kernel_rfl) fun a hF => ?_
    refine wl (eM 22 (v := .bool false) hF hM (by kernel_rfl) (yld_call (f := 31) (args := #[.int .i64 port, .int .i64 0, .int .i64 47]) hF (by kernel_rfl) (fun _ => by kernel_rfl) (fun w hM => fiw_no port 0 47 w (.inr hz3))) fun a w hF hM => ?_)
    refine sB 1 [(23, .bool true)] hF (by kernel_rfl) fun a hF => ?_
    refine wpList_nil ?_
    refine hK6 _ _ ?_
    refine cT hF (by kernel_rfl) (by kernel_rfl) ?_
    refine wp_seq_k fun K15 hK15 => ?_
    refine wp_region_lit ?_
    refine sB 1 [(24, .agg #[.slice none 0 0, .slice none 0 0, .int .i64 0, .slice none 0 0, .slice none 0 0])] hF (by kernel_rfl) fun a hF => ?_
    refine wl (sStore (i := 7) (off := 0) (cs' := #[.slice none 0 0, .slice none 0 0, .int .i64 0, .slice none 0 0, .slice none 0 0]) hF hM (by kernel_rfl) rfl rfl (by kernel_rfl) (by kernel_rfl) rfl (by kernel_rfl) fun w hM => ?_)
    refine sB 2 [(9, .int .i64 0), (10, .int .i64 2)] hF (by kernel_rfl) fun a hF => ?_
    refine wpList_nil ?_
    refine hK15 _ _ ?_
    refine wp_ret ?_
    refine hR0 _ _ ?_
    refine ret_of hF hM (.cell (i := 7) rfl rfl (v := .agg #[.slice none 0 0, .slice none 0 0, .int .i64 0, .slice none 0 0, .slice none 0 0]) (by kernel_rfl) (.tmp rfl (.tmp rfl (.nil)))) ?_
    have he : psE la lq now ls lm port i1 i2 i3 i4 i5 t = 2 := by unfold psE; rw [if_pos hz1, if_neg (by omega)]
    exact ⟨ret_eq (by rw [he]; rfl), hM.bel⟩
  ·skip
   refine wp_region_lit ?_
   refine sB 1 [(21, .int .i64 port)] hF (by kernel_rfl) fun a hF => ?_
   refine wl (eM 22 (v := .bool false) hF hM (by kernel_rfl) (yld_call (f := 31) (args := #[.int .i64 port, .int .i64 0, .int .i64 47]) hF (by kernel_rfl) (fun _ => by kernel_rfl) (fun w hM => fiw_no port 0 47 w (.inl hz2))) fun a w hF hM => ?_)
   refine sB 1 [(23, .bool true)] hF (by kernel_rfl) fun a hF => ?_
   refine wpList_nil ?_
   refine hK6 _ _ ?_
   refine cT hF (by kernel_rfl) (by kernel_rfl) ?_
   refine wp_seq_k fun K16 hK16 => ?_
   refine wp_region_lit ?_
   refine sB 1 [(24, .agg #[.slice none 0 0, .slice none 0 0, .int .i64 0, .slice none 0 0, .slice none 0 0])] hF (by kernel_rfl) fun a hF => ?_
   refine wl (sStore (i := 7) (off := 0) (cs' := #[.slice none 0 0, .slice none 0 0, .int .i64 0, .slice none 0 0, .slice none 0 0]) hF hM (by kernel_rfl) rfl rfl (by kernel_rfl) (by kernel_rfl) rfl (by kernel_rfl) fun w hM => ?_)
   refine sB 2 [(9, .int .i64 0), (10, .int .i64 2)] hF (by kernel_rfl) fun a hF => ?_
   refine wpList_nil ?_
   refine hK16 _ _ ?_
   refine wp_ret ?_
   refine hR0 _ _ ?_
   refine ret_of hF hM (.cell (i := 7) rfl rfl (v := .agg #[.slice none 0 0, .slice none 0 0, .int .i64 0, .slice none 0 0, .slice none 0 0]) (by kernel_rfl) (.tmp rfl (.tmp rfl (.nil)))) ?_
   have he : psE la lq now ls lm port i1 i2 i3 i4 i5 t = 2 := by unfold psE; rw [if_pos hz1, if_neg (by omega)]
   exact ⟨ret_eq (by rw [he]; rfl), hM.bel⟩
 ·skip
  replace hF := hF.c hF (i := 18) (v := .bool true) rfl (nF hz1)
  refine cT hF (by kernel_rfl) (by kernel_rfl) ?_
  refine wp_seq_k fun K17 hK17 => ?_
  refine wp_region_lit ?_
  refine sB 2 [(19, .agg #[.slice none 0 0, .slice none 0 0, .int .i64 0, .slice none 0 0, .slice none 0 0]), (20, .int .i64 (flE la lq now ls lm))] hF (by kernel_rfl) fun a hF => ?_
  refine wl (sStore (i := 7) (off := 0) (cs' := #[.slice none 0 0, .slice none 0 0, .int .i64 0, .slice none 0 0, .slice none 0 0]) hF hM (by kernel_rfl) rfl rfl (by kernel_rfl) (by kernel_rfl) rfl (by kernel_rfl) fun w hM => ?_)
  refine sB 2 [(9, .int .i64 0), (10, .int .i64 (flE la lq now ls lm))] hF (by kernel_rfl) fun a hF => ?_
  refine wpList_nil ?_
  refine hK17 _ _ ?_
  refine wp_ret ?_
  refine hR0 _ _ ?_
  refine ret_of hF hM (.cell (i := 7) rfl rfl (v := .agg #[.slice none 0 0, .slice none 0 0, .int .i64 0, .slice none 0 0, .slice none 0 0]) (by kernel_rfl) (.tmp rfl (.tmp rfl (.nil)))) ?_
  have he : psE la lq now ls lm port i1 i2 i3 i4 i5 t = 430 := by unfold psE; rw [if_neg hz1]
  exact ⟨ret_eq (by rw [he, fl_case hz1]; rfl), hM.bel⟩

set_option maxRecDepth 100000 in
set_option maxHeartbeats 8000000 in
theorem fiPass_ok (A : Option Addr) (la : List (List Int)) (ca : Nat) (A2 : Option Addr) (lq : List (List Int)) (cq_ : Nat) (now : Int) (A3 : Option Addr) (ls : List Int) (cs : Nat) (A4 : Option Addr) (lm : List (List Int)) (cm : Nat) (port i1 i2 i3 i4 i5 t : Int) (w0 : World) (hA : Ro w0 A (flatR la)) (hW : WR 7 la) (hA2 : Ro w0 A2 (flatR lq)) (hW2 : WR 5 lq) (hA3 : Ro w0 A3 (ls.map (Value.int .i64))) (hA4 : Ro w0 A4 (flatR lm)) (hW4 : WR 3 lm) (h0 : flE la lq now ls lm = 0) (hp : 0 ≤ port ∧ port ≤ 47) (hv : viB i1 i2 i3 i4 i5 = true) (ht : now ≤ t ∧ t ≤ 549755813888) {ls1 : List Int} {lm1 : List (List Int)} {v1 : Int} {n3 n4 : Nat} (e : psR la lq ls lm port i1 i3 i4 t = (ls1, lm1, v1)) (e3 : ls.length = n3) (e4 : lm.length = n4) :
    Calls Try.prog 17 #[.agg #[.slice A la.length ca, .slice A2 lq.length cq_, .int .i64 now, .slice A3 ls.length cs, .slice A4 lm.length cm], .int .i64 port, .agg #[.int .i64 i1, .int .i64 i2, .int .i64 i3, .int .i64 i4, .int .i64 i5], .int .i64 t] w0 (RetRo2 w0 (fun x y => .tuple #[.agg #[.slice A la.length ca, .slice A2 lq.length cq_, .int .i64 t, x, y], .int .i64 v1, .int .i64 0]) A3 A4 n3 n4 (ls1.map (Value.int .i64)) (flatR lm1)) := by
 refine enterK 58 Try.func17 rfl rfl rfl ?_
 intro a hF Q0 hR0 hN0
 have hM := Mem.start w0
 replace hM := hM.addOld 1 hA (Nat.le_refl _)
 replace hM := hM.addOld 2 hA2 (Nat.le_refl _)
 replace hM := hM.addOld 3 hA3 (Nat.le_refl _)
 replace hM := hM.addOld 4 hA4 (Nat.le_refl _)
 refine wp_seq_k fun K1 hK1 => ?_
 refine wp_region_lit ?_
 refine wl (eN 4 5 (t := 27) (fun b => .pointer (some ⟨b, 0, none⟩)) #[.slice A la.length ca, .slice A2 lq.length cq_, .int .i64 now, .slice A3 ls.length cs, .slice A4 lm.length cm] hF hM (by kernel_rfl) (fun _ => by kernel_rfl) fun bb1 a w hF hM => ?_)
 refine wl (eN 6 6 (t := 39) (fun b => .pointer (some ⟨b, 0, none⟩)) #[.int .i64 i1, .int .i64 i2, .int .i64 i3, .int .i64 i4, .int .i64 i5] hF hM (by kernel_rfl) (fun _ => by kernel_rfl) fun bb2 a w hF hM => ?_)
 refine wl (eN 8 7 (t := 27) (fun b => .pointer (some ⟨b, 0, none⟩)) #[.slice none 0 0, .slice none 0 0, .int .i64 0, .slice none 0 0, .slice none 0 0] hF hM (by kernel_rfl) (fun _ => by kernel_rfl) fun bb3 a w hF hM => ?_)
 refine sB 2 [(9, .int .i64 0), (10, .int .i64 0)] hF (by kernel_rfl) fun a hF => ?_
 refine wpList_nil ?_
 refine hK1 _ _ ?_
 refine wp_seq_k fun K2 hK2 => ?_
 refine wp_seq_k fun K3 hK3 => ?_
 have hln := fl_len (fl_p h0)
 have hvi := vi_bd hv
 refine wp_region_lit ?_
 refine wl (eL 15 5 0 (v := .agg #[.slice A la.length ca, .slice A2 lq.length cq_, .int .i64 now, .slice A3 ls.length cs, .slice A4 lm.length cm]) hF hM (by kernel_rfl) rfl rfl (by kernel_rfl) (by kernel_rfl) fun a w hF hM => ?_)
 refine wl (eM 16 (v := .int .i64 (flE la lq now ls lm)) hF hM (by kernel_rfl) (yld_call (f := 12) (args := #[.agg #[.slice A la.length ca, .slice A2 lq.length cq_, .int .i64 now, .slice A3 ls.length cs, .slice A4 lm.length cm]]) hF (by kernel_rfl) (fun _ => by kernel_rfl) (fun w hM => fiCheck_x A la ca A2 lq cq_ now A3 ls cs A4 lm cm w (hM.ok 1 _ rfl) hW (hM.ok 2 _ rfl) hW2 (hM.ok 3 _ rfl) (hM.ok 4 _ rfl) hW4 rfl rfl rfl rfl)) fun a w hF hM => ?_)
 refine sB 1 [(11, .int .i64 (flE la lq now ls lm))] hF (by kernel_rfl) fun a hF => ?_
 refine wpList_nil ?_
 refine hK3 _ _ ?_
 refine wp_seq_k fun K4 hK4 => ?_
 refine wp_region_lit ?_
 refine sB 1 [(17, .int .i64 (flE la lq now ls lm))] hF (by kernel_rfl) fun a hF => ?_
 refine wl (eP 18 (v0 := .bool (!decide (flE la lq now ls lm = 0))) (v := .bool false) hF (by kernel_rfl) (fun _ => by kernel_rfl) (nT h0) fun a hF => ?_)
 refine wpList_nil ?_
 refine hK4 _ _ ?_
 refine cF hF (by kernel_rfl) (by kernel_rfl) ?_
 refine wp_skip ?_
 refine hK2 _ _ ?_
 refine wp_seq_k fun K5 hK5 => ?_
 refine wp_seq_k fun K6 hK6 => ?_
 refine wp_region_lit ?_
 refine sB 1 [(21, .int .i64 port)] hF (by kernel_rfl) fun a hF => ?_
 refine wl (eM 22 (v := .bool true) hF hM (by kernel_rfl) (yld_call (f := 31) (args := #[.int .i64 port, .int .i64 0, .int .i64 47]) hF (by kernel_rfl) (fun _ => by kernel_rfl) (fun w hM => fiw_yes port 0 47 w (by omega) (by omega))) fun a w hF hM => ?_)
 refine sB 1 [(23, .bool false)] hF (by kernel_rfl) fun a hF => ?_
 refine wpList_nil ?_
 refine hK6 _ _ ?_
 refine cF hF (by kernel_rfl) (by kernel_rfl) ?_
 refine wp_skip ?_
 refine hK5 _ _ ?_
 refine wp_seq_k fun K7 hK7 => ?_
 refine wp_seq_k fun K8 hK8 => ?_
 refine wp_region_lit ?_
 refine wl (eL 25 6 0 (v := .agg #[.int .i64 i1, .int .i64 i2, .int .i64 i3, .int .i64 i4, .int .i64 i5]) hF hM (by kernel_rfl) rfl rfl (by kernel_rfl) (by kernel_rfl) fun a w hF hM => ?_)
 refine wl (eM 26 (v := .bool true) hF hM (by kernel_rfl) (Yld.to (yld_call (f := 35) (args := #[.agg #[.int .i64 i1, .int .i64 i2, .int .i64 i3, .int .i64 i4, .int .i64 i5]]) hF (by kernel_rfl) (fun _ => by kernel_rfl) (fun w hM => validItem_w i1 i2 i3 i4 i5 w)) (congrArg Value.bool hv)) fun a w hF hM => ?_)
 refine sB 1 [(27, .bool false)] hF (by kernel_rfl) fun a hF => ?_
 refine wpList_nil ?_
 refine hK8 _ _ ?_
 refine cF hF (by kernel_rfl) (by kernel_rfl) ?_
 refine wp_skip ?_
 refine hK7 _ _ ?_
 refine wp_seq_k fun K9 hK9 => ?_
 refine wp_seq_k fun K10 hK10 => ?_
 refine wp_region_lit ?_
 refine sB 2 [(29, .int .i64 t), (30, .pointer (some ⟨bb1, 2, none⟩))] hF (by kernel_rfl) fun a hF => ?_
 refine wl (eL 31 5 2 (v := .int .i64 now) hF hM (by kernel_rfl) rfl rfl (by kernel_rfl) (by kernel_rfl) fun a w hF hM => ?_)
 refine wl (eM 32 (v := .bool true) hF hM (by kernel_rfl) (yld_call (f := 31) (args := #[.int .i64 t, .int .i64 now, .int .i64 549755813888]) hF (by kernel_rfl) (fun _ => by kernel_rfl) (fun w hM => fiw_yes t now 549755813888 w (by omega) (by omega))) fun a w hF hM => ?_)
 refine sB 1 [(33, .bool false)] hF (by kernel_rfl) fun a hF => ?_
 refine wpList_nil ?_
 refine hK10 _ _ ?_
 refine cF hF (by kernel_rfl) (by kernel_rfl) ?_
 refine wp_skip ?_
 refine hK9 _ _ ?_
 refine wp_seq_k fun K11 hK11 => ?_
 refine wp_region_lit ?_
 refine wl (eL 35 5 0 (v := .agg #[.slice A la.length ca, .slice A2 lq.length cq_, .int .i64 now, .slice A3 ls.length cs, .slice A4 lm.length cm]) hF hM (by kernel_rfl) rfl rfl (by kernel_rfl) (by kernel_rfl) fun a w hF hM => ?_)
 refine sB 1 [(36, .agg #[.slice A la.length ca, .slice A2 lq.length cq_, .int .i64 now, .slice A3 ls.length cs, .slice A4 lm.length cm])] hF (by kernel_rfl) fun a hF => ?_
 refine wl (eN 12 8 (t := 85) (fun b => .pointer (some ⟨b, 0, none⟩)) #[.slice none 0 0, .slice none 0 0, .int .i64 0, .slice none 0 0, .slice none 0 0] hF hM (by kernel_rfl) (fun _ => by kernel_rfl) fun bb4 a w hF hM => ?_)
 refine wl (sStore (i := 8) (off := 0) (cs' := #[.slice A la.length ca, .slice A2 lq.length cq_, .int .i64 now, .slice A3 ls.length cs, .slice A4 lm.length cm]) hF hM (by kernel_rfl) rfl rfl (by kernel_rfl) (by kernel_rfl) rfl (by kernel_rfl) fun w hM => ?_)
 refine wpList_nil ?_
 refine hK11 _ _ ?_
 refine wp_seq_k fun K12 hK12 => ?_
 refine wp_region_lit ?_
 refine sB 3 [(37, .int .i64 t), (38, .pointer (some ⟨bb4, 0, none⟩)), (39, .pointer (some ⟨bb4, 2, none⟩))] hF (by kernel_rfl) fun a hF => ?_
 refine wl (sStore (i := 8) (off := 2) (cs' := #[.slice A la.length ca, .slice A2 lq.length cq_, .int .i64 t, .slice A3 ls.length cs, .slice A4 lm.length cm]) hF hM (by kernel_rfl) rfl rfl (by kernel_rfl) (by kernel_rfl) rfl (by kernel_rfl) fun w hM => ?_)
 refine wpList_nil ?_
 refine hK12 _ _ ?_
 refine wp_seq_k fun K13 hK13 => ?_
 refine wp_region_lit ?_
 refine sB 2 [(40, .func (.func 37) #[.pointer (some ⟨bb4, 0, none⟩)] #[]), (13, .func (.func 37) #[.pointer (some ⟨bb4, 0, none⟩)] #[])] hF (by kernel_rfl) fun a hF => ?_
 refine wpList_nil ?_
 refine hK13 _ _ ?_
 refine wp_seq_k fun K14 hK14 => ?_
 refine wp_seq_k fun K15 hK15 => ?_
 by_cases hz1 : i3 = 7
 ·skip
  refine wp_region_lit ?_
  refine sB 1 [(41, .pointer (some ⟨bb2, 2, none⟩))] hF (by kernel_rfl) fun a hF => ?_
  refine wl (eL 42 6 2 (v := .int .i64 i3) hF hM (by kernel_rfl) rfl rfl (by kernel_rfl) (by kernel_rfl) fun a w hF hM => ?_)
  refine wl (eP 43 (v0 := .bool (decide (i3 = 7))) (v := .bool true) hF (by kernel_rfl) (fun _ => by kernel_rfl) (bT hz1) fun a hF => ?_)
  refine sB 5 [(44, .bool true), (45, undef), (46, undef), (47, undef), (48, .bool true)] hF (by kernel_rfl) fun a hF => ?_
  refine wpList_nil ?_
  refine hK15 _ _ ?_
  refine cT hF (by kernel_rfl) (by kernel_rfl) ?_
  refine wp_region_lit ?_
  refine sB 2 [(49, .func (.func 38) #[.pointer (some ⟨bb4, 0, none⟩)] #[]), (13, .func (.func 38) #[.pointer (some ⟨bb4, 0, none⟩)] #[])] hF (by kernel_rfl) fun a hF => ?_
  refine wpList_nil ?_
  refine hK14 _ _ ?_
  refine wp_seq_k fun K16 hK16 => ?_
  refine wp_region_lit ?_
  refine sB 2 [(50, .func (.func 38) #[.pointer (some ⟨bb4, 0, none⟩)] #[]), (51, .int .i64 port)] hF (by kernel_rfl) fun a hF => ?_
  refine wl (eL 52 6 0 (v := .agg #[.int .i64 i1, .int .i64 i2, .int .i64 i3, .int .i64 i4, .int .i64 i5]) hF hM (by kernel_rfl) rfl rfl (by kernel_rfl) (by kernel_rfl) fun a w hF hM => ?_)
  refine sB 1 [(53, .int .i64 t)] hF (by kernel_rfl) fun a hF => ?_
  refine wl (sC (f := 38) (args := #[.pointer (some ⟨bb4, 0, none⟩), .int .i64 port, .agg #[.int .i64 i1, .int .i64 i2, .int .i64 i3, .int .i64 i4, .int .i64 i5], .int .i64 t]) hF (by kernel_rfl) rfl (by decide) (by kernel_rfl) (fun _ => by kernel_rfl) ?_)
  refine enterK 89 Try.func38 rfl rfl rfl ?_
  intro a1 hF1 QR17 hR17 hNR17
  refine wp_seq_k fun K18 hK18 => ?_
  refine wp_region_lit ?_
  refine wl (eN 4 9 (t := 103) (fun b => .pointer (some ⟨b, 0, none⟩)) #[.pointer (some ⟨bb4, 0, none⟩)] hF1 hM (by kernel_rfl) (fun _ => by kernel_rfl) fun bb5 a1 w hF1 hM => ?_)
  refine wl (eN 6 10 (t := 39) (fun b => .pointer (some ⟨b, 0, none⟩)) #[.int .i64 i1, .int .i64 i2, .int .i64 i3, .int .i64 i4, .int .i64 i5] hF1 hM (by kernel_rfl) (fun _ => by kernel_rfl) fun bb6 a1 w hF1 hM => ?_)
  refine sB 1 [(8, .int .i64 0)] hF1 (by kernel_rfl) fun a1 hF1 => ?_
  refine wpList_nil ?_
  refine hK18 _ _ ?_
  refine wp_scope_straight ?_
  refine wp_seq_k fun K19 hK19 => ?_
  have hln := fl_len (fl_p h0)
  have hvi := vi_bd hv
  refine rF (by kernel_rfl) (by kernel_rfl) (fun S a w => ∃ bb7 : Nat, Fr 89 [(1, some (.int .i64 port)), (3, some (.int .i64 t)), (4, some (.pointer (some ⟨bb5, 0, none⟩))), (6, some (.pointer (some ⟨bb6, 0, none⟩))), (8, some (.int .i64 0)), (9, (cond (S.getD 6 false) (some (.pointer (some ⟨bb7, 0, none⟩))) none)), (17, (cond (S.getD 0 false) (some (.pointer (some ⟨bb4, 0, none⟩))) none)), (18, (cond (S.getD 1 false) (some (.pointer (some ⟨bb4, 0, none⟩))) none)), (19, (cond (S.getD 2 false) (some (.agg #[.slice A la.length ca, .slice A2 lq.length cq_, .int .i64 t, .slice A3 ls.length cs, .slice A4 lm.length cm])) none)), (20, (cond (S.getD 3 false) (some (.int .i64 port)) none)), (21, (cond (S.getD 4 false) (some (.agg #[.int .i64 i1, .int .i64 i2, .int .i64 i3, .int .i64 i4, .int .i64 i5])) none)), (22, (cond (S.getD 5 false) (some (.int .i64 (regI port i1 i3 la))) none))] a ∧ Mem w0.heap.size w0 [(1, some (.ro A (flatR la))), (2, some (.ro A2 (flatR lq))), (3, some (.ro A3 (ls.map (Value.int .i64)))), (4, some (.ro A4 (flatR lm))), (5, some (.row bb1 27 #[.slice A la.length ca, .slice A2 lq.length cq_, .int .i64 now, .slice A3 ls.length cs, .slice A4 lm.length cm])), (6, some (.row bb2 39 #[.int .i64 i1, .int .i64 i2, .int .i64 i3, .int .i64 i4, .int .i64 i5])), (7, some (.row bb3 27 #[.slice none 0 0, .slice none 0 0, .int .i64 0, .slice none 0 0, .slice none 0 0])), (8, some (.row bb4 85 #[.slice A la.length ca, .slice A2 lq.length cq_, .int .i64 t, .slice A3 ls.length cs, .slice A4 lm.length cm])), (9, some (.row bb5 103 #[.pointer (some ⟨bb4, 0, none⟩)])), (10, some (.row bb6 39 #[.int .i64 i1, .int .i64 i2, .int .i64 i3, .int .i64 i4, .int .i64 i5])), (11, (cond (S.getD 7 false) (some (.row bb7 3 #[.int .i64 (regI port i1 i3 la)])) (cond (S.getD 6 false) (some (.row bb7 3 #[.int .i64 0])) none)))] w) ?_ ?_ ?_
  ·exact ⟨0, (((((((((((((Fr.nil hF1).co hF1 (i := 22) (by kernel_rfl)).co hF1 (i := 21) (by kernel_rfl)).co hF1 (i := 20) (by kernel_rfl)).co hF1 (i := 19) (by kernel_rfl)).co hF1 (i := 18) (by kernel_rfl)).co hF1 (i := 17) (by kernel_rfl)).co hF1 (i := 9) (by kernel_rfl)).co hF1 (i := 8) (by kernel_rfl)).co hF1 (i := 6) (by kernel_rfl)).co hF1 (i := 4) (by kernel_rfl)).co hF1 (i := 3) (by kernel_rfl)).co hF1 (i := 1) (by kernel_rfl)), hM.drew.sub (((((((((((Sub.nil.co (k := 11) (by kernel_rfl)).co (k := 10) (by kernel_rfl)).co (k := 9) (by kernel_rfl)).co (k := 8) (by kernel_rfl)).co (k := 7) (by kernel_rfl)).co (k := 6) (by kernel_rfl)).co (k := 5) (by kernel_rfl)).co (k := 4) (by kernel_rfl)).co (k := 3) (by kernel_rfl)).co (k := 2) (by kernel_rfl)).co (k := 1) (by kernel_rfl))⟩
  ·refine stC ?_ (stC ?_ (stC ?_ (stC ?_ (stC ?_ (stC ?_ (stC ?_ (stC ?_ (trivial))))))))
   ·intro s0 s1 s2 s3 s4 s5 s6 s7 hc hi hp a w hS
    obtain rfl : s0 = false := hi
    obtain ⟨bb7, hF1, hM⟩ := hS
    refine eL 17 9 0 (v := .pointer (some ⟨bb4, 0, none⟩)) hF1 hM (by kernel_rfl) rfl rfl (by kernel_rfl) (by kernel_rfl) fun a1 w hF1 hM => ?_
    exact ⟨bb7, ((hF1.repl 6 (by kernel_rfl)).cast (by kernel_rfl)), (hM.cast (by kernel_rfl))⟩
   ·intro s0 s1 s2 s3 s4 s5 s6 s7 hc hi hp a w hS
    obtain rfl : s1 = false := hi
    obtain rfl : s0 = true := hp 0 (by kernel_rfl)
    obtain ⟨bb7, hF1, hM⟩ := hS
    refine eP 18 (v0 := .pointer (some ⟨bb4, 0, none⟩)) (v := .pointer (some ⟨bb4, 0, none⟩)) hF1 (by kernel_rfl) (fun _ => by kernel_rfl) rfl fun a1 hF1 => ?_
    exact ⟨bb7, ((hF1.repl 7 (by kernel_rfl)).cast (by kernel_rfl)), (hM.cast (by kernel_rfl))⟩
   ·intro s0 s1 s2 s3 s4 s5 s6 s7 hc hi hp a w hS
    obtain rfl : s2 = false := hi
    obtain rfl : s1 = true := hp 1 (by kernel_rfl)
    obtain ⟨bb7, hF1, hM⟩ := hS
    refine eL 19 8 0 (v := .agg #[.slice A la.length ca, .slice A2 lq.length cq_, .int .i64 t, .slice A3 ls.length cs, .slice A4 lm.length cm]) hF1 hM (by kernel_rfl) rfl rfl (by kernel_rfl) (by kernel_rfl) fun a1 w hF1 hM => ?_
    exact ⟨bb7, ((hF1.repl 8 (by kernel_rfl)).cast (by kernel_rfl)), (hM.cast (by kernel_rfl))⟩
   ·intro s0 s1 s2 s3 s4 s5 s6 s7 hc hi hp a w hS
    obtain rfl : s3 = false := hi
    obtain ⟨bb7, hF1, hM⟩ := hS
    refine eP 20 (v0 := .int .i64 port) (v := .int .i64 port) hF1 (by kernel_rfl) (fun _ => by kernel_rfl) rfl fun a1 hF1 => ?_
    exact ⟨bb7, ((hF1.repl 9 (by kernel_rfl)).cast (by kernel_rfl)), (hM.cast (by kernel_rfl))⟩
   ·intro s0 s1 s2 s3 s4 s5 s6 s7 hc hi hp a w hS
    obtain rfl : s4 = false := hi
    obtain ⟨bb7, hF1, hM⟩ := hS
    refine eL 21 10 0 (v := .agg #[.int .i64 i1, .int .i64 i2, .int .i64 i3, .int .i64 i4, .int .i64 i5]) hF1 hM (by kernel_rfl) rfl rfl (by kernel_rfl) (by kernel_rfl) fun a1 w hF1 hM => ?_
    exact ⟨bb7, ((hF1.repl 10 (by kernel_rfl)).cast (by kernel_rfl)), (hM.cast (by kernel_rfl))⟩
   ·intro s0 s1 s2 s3 s4 s5 s6 s7 hc hi hp a w hS
    obtain rfl : s5 = false := hi
    obtain rfl : s4 = true := hp 4 (by kernel_rfl)
    obtain rfl : s3 = true := hp 3 (by kernel_rfl)
    obtain rfl : s2 = true := hp 2 (by kernel_rfl)
    obtain ⟨bb7, hF1, hM⟩ := hS
    refine eM 22 (v := .int .i64 (regI port i1 i3 la)) hF1 hM (by kernel_rfl) (yld_call (f := 36) (args := #[.agg #[.slice A la.length ca, .slice A2 lq.length cq_, .int .i64 t, .slice A3 ls.length cs, .slice A4 lm.length cm], .int .i64 port, .agg #[.int .i64 i1, .int .i64 i2, .int .i64 i3, .int .i64 i4, .int .i64 i5]]) hF1 (by kernel_rfl) (fun _ => by kernel_rfl) (fun w hM => registration_w A la ca A2 lq cq_ t A3 ls cs A4 lm cm port i1 i2 i3 i4 i5 w (hM.ok 1 _ rfl) hW (hM.ok 2 _ rfl) hW2 (hM.ok 3 _ rfl) (hM.ok 4 _ rfl) hW4 (by omega))) fun a1 w hF1 hM => ?_
    exact ⟨bb7, ((hF1.repl 11 (by kernel_rfl)).cast (by kernel_rfl)), (hM.cast (by kernel_rfl))⟩
   ·intro s0 s1 s2 s3 s4 s5 s6 s7 hc hi hp a w hS
    obtain rfl : s6 = false := hi
    obtain rfl : s7 = false := hc.f 7 6 (by kernel_rfl) rfl
    obtain ⟨bb7, hF1, hM⟩ := hS
    refine eN 9 11 (t := 3) (fun b => .pointer (some ⟨b, 0, none⟩)) #[.int .i64 0] hF1 hM (by kernel_rfl) (fun _ => by kernel_rfl) fun bb7 a1 w hF1 hM => ?_
    exact ⟨bb7, ((hF1.repl 5 (by kernel_rfl)).cast (by kernel_rfl)), ((hM.repl 10 (by kernel_rfl)).cast (by kernel_rfl))⟩
   ·intro s0 s1 s2 s3 s4 s5 s6 s7 hc hi hp a w hS
    obtain rfl : s7 = false := hi
    obtain rfl : s6 = true := hp 6 (by kernel_rfl)
    obtain rfl : s5 = true := hp 5 (by kernel_rfl)
    obtain ⟨bb7, hF1, hM⟩ := hS
    refine sStore (i := 11) (off := 0) (cs' := #[.int .i64 (regI port i1 i3 la)]) hF1 hM (by kernel_rfl) rfl rfl (by kernel_rfl) (by kernel_rfl) rfl (by kernel_rfl) fun w hM => ?_
    exact ⟨bb7, (hF1.cast (by kernel_rfl)), ((hM.repl 10 (by kernel_rfl)).cast (by kernel_rfl))⟩
  ·intro a1 w hS
   obtain ⟨bb7, hF1, hM⟩ := hS
   replace hF1 : Fr 89 [(1, some (.int .i64 port)), (3, some (.int .i64 t)), (4, some (.pointer (some ⟨bb5, 0, none⟩))), (6, some (.pointer (some ⟨bb6, 0, none⟩))), (8, some (.int .i64 0)), (9, some (.pointer (some ⟨bb7, 0, none⟩))), (17, some (.pointer (some ⟨bb4, 0, none⟩))), (18, some (.pointer (some ⟨bb4, 0, none⟩))), (19, some (.agg #[.slice A la.length ca, .slice A2 lq.length cq_, .int .i64 t, .slice A3 ls.length cs, .slice A4 lm.length cm])), (20, some (.int .i64 port)), (21, some (.agg #[.int .i64 i1, .int .i64 i2, .int .i64 i3, .int .i64 i4, .int .i64 i5])), (22, some (.int .i64 (regI port i1 i3 la)))] a1 := hF1.cast (by kernel_rfl)
   replace hM : Mem w0.heap.size w0 [(1, some (.ro A (flatR la))), (2, some (.ro A2 (flatR lq))), (3, some (.ro A3 (ls.map (Value.int .i64)))), (4, some (.ro A4 (flatR lm))), (5, some (.row bb1 27 #[.slice A la.length ca, .slice A2 lq.length cq_, .int .i64 now, .slice A3 ls.length cs, .slice A4 lm.length cm])), (6, some (.row bb2 39 #[.int .i64 i1, .int .i64 i2, .int .i64 i3, .int .i64 i4, .int .i64 i5])), (7, some (.row bb3 27 #[.slice none 0 0, .slice none 0 0, .int .i64 0, .slice none 0 0, .slice none 0 0])), (8, some (.row bb4 85 #[.slice A la.length ca, .slice A2 lq.length cq_, .int .i64 t, .slice A3 ls.length cs, .slice A4 lm.length cm])), (9, some (.row bb5 103 #[.pointer (some ⟨bb4, 0, none⟩)])), (10, some (.row bb6 39 #[.int .i64 i1, .int .i64 i2, .int .i64 i3, .int .i64 i4, .int .i64 i5])), (11, some (.row bb7 3 #[.int .i64 (regI port i1 i3 la)]))] w := hM.cast (by kernel_rfl)
   refine hK19 _ _ ?_
   refine wp_seq_k fun K20 hK20 => ?_
   refine wp_seq_k fun K21 hK21 => ?_
   refine wp_region_lit ?_
   refine wl (eL 23 11 0 (v := .int .i64 (regI port i1 i3 la)) hF1 hM (by kernel_rfl) rfl rfl (by kernel_rfl) (by kernel_rfl) fun a1 w hF1 hM => ?_)
   refine sB 1 [(24, .bool (decide (regI port i1 i3 la < 0)))] hF1 (by kernel_rfl) fun a1 hF1 => ?_
   refine wpList_nil ?_
   refine hK21 _ _ ?_
   by_cases hz2 : regI port i1 i3 la < 0
   ·skip
    replace hF1 := hF1.c hF1 (i := 24) (v := .bool true) rfl (bT hz2)
    refine cT hF1 (by kernel_rfl) (by kernel_rfl) ?_
    refine wp_seq_k fun K22 hK22 => ?_
    refine wp_region_lit ?_
    refine sB 1 [(8, .int .i64 1)] hF1 (by kernel_rfl) fun a1 hF1 => ?_
    refine wpList_nil ?_
    refine hK22 _ _ ?_
    refine wp_ret ?_
    refine hR17 _ _ ?_
    refine ret_of hF1 hM (.tmp rfl (.nil)) ⟨_, rfl, ?_⟩
    intro a hF
    refine sB 1 [(14, .int .i64 1)] hF (by kernel_rfl) fun a hF => ?_
    refine wpList_nil ?_
    refine hK16 _ _ ?_
    refine wp_seq_k fun K23 hK23 => ?_
    refine wp_region_lit ?_
    refine sB 1 [(55, .pointer (some ⟨bb4, 0, none⟩))] hF (by kernel_rfl) fun a hF => ?_
    refine wl (eL 56 8 0 (v := .agg #[.slice A la.length ca, .slice A2 lq.length cq_, .int .i64 t, .slice A3 ls.length cs, .slice A4 lm.length cm]) hF hM (by kernel_rfl) rfl rfl (by kernel_rfl) (by kernel_rfl) fun a w hF hM => ?_)
    refine sB 1 [(57, .int .i64 1)] hF (by kernel_rfl) fun a hF => ?_
    refine wl (sStore (i := 7) (off := 0) (cs' := #[.slice A la.length ca, .slice A2 lq.length cq_, .int .i64 t, .slice A3 ls.length cs, .slice A4 lm.length cm]) hF hM (by kernel_rfl) rfl rfl (by kernel_rfl) (by kernel_rfl) rfl (by kernel_rfl) fun w hM => ?_)
    refine sB 2 [(9, .int .i64 1), (10, .int .i64 0)] hF (by kernel_rfl) fun a hF => ?_
    refine wpList_nil ?_
    refine hK23 _ _ ?_
    refine wp_ret ?_
    refine hR0 _ _ ?_
    refine ret_of hF hM (.cell (i := 7) rfl rfl (v := .agg #[.slice A la.length ca, .slice A2 lq.length cq_, .int .i64 t, .slice A3 ls.length cs, .slice A4 lm.length cm]) (by kernel_rfl) (.tmp rfl (.tmp rfl (.nil)))) ?_
    have e2 := e.symm.trans (show psR la lq ls lm port i1 i3 i4 t = (ls, lm, 1) from by unfold psR; rw [if_neg (show ¬ i3 ≤ 5 by omega)]; have hA : psA la ls port i1 i3 i4 t = (ls, 1) := by { unfold psA; rw [if_pos hz2] }; rw [hA])
    have eq1 := (Prod.mk.inj e2).1
    have eq2 := (Prod.mk.inj (Prod.mk.inj e2).2).1
    have eq3 := (Prod.mk.inj (Prod.mk.inj e2).2).2
    clear e2 e
    subst eq1 eq2 eq3
    subst e3 e4
    exact ⟨_, _, _, _, rfl, hM.roSame (k := 3) rfl, hM.roSame (k := 4) rfl, hM.bel⟩
   ·skip
    replace hF1 := hF1.c hF1 (i := 24) (v := .bool false) rfl (bF hz2)
    refine cF hF1 (by kernel_rfl) (by kernel_rfl) ?_
    refine wp_skip ?_
    refine hK20 _ _ ?_
    refine wp_seq_k fun K24 hK24 => ?_
    obtain ⟨kk, hkk, hklt, hkr, hkn⟩ := reg_pos hz2
    rw [hkk] at hF1
    rw [hkk] at hM
    refine rF (by kernel_rfl) (by kernel_rfl) (fun S a w => ∃ bb8 : Nat, Fr 89 [(3, some (.int .i64 t)), (4, some (.pointer (some ⟨bb5, 0, none⟩))), (6, some (.pointer (some ⟨bb6, 0, none⟩))), (8, some (.int .i64 0)), (9, some (.pointer (some ⟨bb7, 0, none⟩))), (10, (cond (S.getD 8 false) (some (.pointer (some ⟨bb8, 0, none⟩))) none)), (25, (cond (S.getD 0 false) (some (.pointer (some ⟨bb4, 0, none⟩))) none)), (26, (cond (S.getD 1 false) (some (.pointer (some ⟨bb4, 0, none⟩))) none)), (27, (cond (S.getD 2 false) (some (.pointer (some ⟨bb4, 0, none⟩))) none)), (28, (cond (S.getD 3 false) (some (.pointer (some ⟨bb4, 0, none⟩))) none)), (29, (cond (S.getD 4 false) (some (.slice A la.length ca)) none)), (30, (cond (S.getD 5 false) (some (.int .i64 (kk : Int))) none)), (31, (cond (S.getD 6 false) (some (.pointer (some (ea A (kk * 7))))) none)), (32, (cond (S.getD 7 false) (some (.agg #[.int .i64 (rc la kk 0), .int .i64 (rc la kk 1), .int .i64 (rc la kk 2), .int .i64 (rc la kk 3), .int .i64 (rc la kk 4), .int .i64 (rc la kk 5), .int .i64 (rc la kk 6)])) none))] a ∧ Mem w0.heap.size w0 [(1, some (.ro A (flatR la))), (2, some (.ro A2 (flatR lq))), (3, some (.ro A3 (ls.map (Value.int .i64)))), (4, some (.ro A4 (flatR lm))), (5, some (.row bb1 27 #[.slice A la.length ca, .slice A2 lq.length cq_, .int .i64 now, .slice A3 ls.length cs, .slice A4 lm.length cm])), (6, some (.row bb2 39 #[.int .i64 i1, .int .i64 i2, .int .i64 i3, .int .i64 i4, .int .i64 i5])), (7, some (.row bb3 27 #[.slice none 0 0, .slice none 0 0, .int .i64 0, .slice none 0 0, .slice none 0 0])), (8, some (.row bb4 85 #[.slice A la.length ca, .slice A2 lq.length cq_, .int .i64 t, .slice A3 ls.length cs, .slice A4 lm.length cm])), (9, some (.row bb5 103 #[.pointer (some ⟨bb4, 0, none⟩)])), (10, some (.row bb6 39 #[.int .i64 i1, .int .i64 i2, .int .i64 i3, .int .i64 i4, .int .i64 i5])), (11, some (.row bb7 3 #[.int .i64 (kk : Int)])), (12, (cond (S.getD 9 false) (some (.row bb8 57 #[.int .i64 (rc la kk 0), .int .i64 (rc la kk 1), .int .i64 (rc la kk 2), .int .i64 (rc la kk 3), .int .i64 (rc la kk 4), .int .i64 (rc la kk 5), .int .i64 (rc la kk 6)])) (cond (S.getD 8 false) (some (.row bb8 57 #[.int .i64 0, .int .i64 0, .int .i64 0, .int .i64 0, .int .i64 0, .int .i64 0, .int .i64 0])) none)))] w) ?_ ?_ ?_
    ·exact ⟨0, (((((((((((((((Fr.nil hF1).co hF1 (i := 32) (by kernel_rfl)).co hF1 (i := 31) (by kernel_rfl)).co hF1 (i := 30) (by kernel_rfl)).co hF1 (i := 29) (by kernel_rfl)).co hF1 (i := 28) (by kernel_rfl)).co hF1 (i := 27) (by kernel_rfl)).co hF1 (i := 26) (by kernel_rfl)).co hF1 (i := 25) (by kernel_rfl)).co hF1 (i := 10) (by kernel_rfl)).co hF1 (i := 9) (by kernel_rfl)).co hF1 (i := 8) (by kernel_rfl)).co hF1 (i := 6) (by kernel_rfl)).co hF1 (i := 4) (by kernel_rfl)).co hF1 (i := 3) (by kernel_rfl)), hM.drew.sub ((((((((((((Sub.nil.co (k := 12) (by kernel_rfl)).co (k := 11) (by kernel_rfl)).co (k := 10) (by kernel_rfl)).co (k := 9) (by kernel_rfl)).co (k := 8) (by kernel_rfl)).co (k := 7) (by kernel_rfl)).co (k := 6) (by kernel_rfl)).co (k := 5) (by kernel_rfl)).co (k := 4) (by kernel_rfl)).co (k := 3) (by kernel_rfl)).co (k := 2) (by kernel_rfl)).co (k := 1) (by kernel_rfl))⟩
    ·refine stC ?_ (stC ?_ (stC ?_ (stC ?_ (stC ?_ (stC ?_ (stC ?_ (stC ?_ (stC ?_ (stC ?_ (trivial))))))))))
     ·intro s0 s1 s2 s3 s4 s5 s6 s7 s8 s9 hc hi hp a w hS
      obtain rfl : s0 = false := hi
      obtain ⟨bb8, hF1, hM⟩ := hS
      refine eL 25 9 0 (v := .pointer (some ⟨bb4, 0, none⟩)) hF1 hM (by kernel_rfl) rfl rfl (by kernel_rfl) (by kernel_rfl) fun a1 w hF1 hM => ?_
      exact ⟨bb8, ((hF1.repl 6 (by kernel_rfl)).cast (by kernel_rfl)), (hM.cast (by kernel_rfl))⟩
     ·intro s0 s1 s2 s3 s4 s5 s6 s7 s8 s9 hc hi hp a w hS
      obtain rfl : s1 = false := hi
      obtain rfl : s0 = true := hp 0 (by kernel_rfl)
      obtain ⟨bb8, hF1, hM⟩ := hS
      refine eP 26 (v0 := .pointer (some ⟨bb4, 0, none⟩)) (v := .pointer (some ⟨bb4, 0, none⟩)) hF1 (by kernel_rfl) (fun _ => by kernel_rfl) rfl fun a1 hF1 => ?_
      exact ⟨bb8, ((hF1.repl 7 (by kernel_rfl)).cast (by kernel_rfl)), (hM.cast (by kernel_rfl))⟩
     ·intro s0 s1 s2 s3 s4 s5 s6 s7 s8 s9 hc hi hp a w hS
      obtain rfl : s2 = false := hi
      obtain rfl : s1 = true := hp 1 (by kernel_rfl)
      obtain ⟨bb8, hF1, hM⟩ := hS
      refine eP 27 (v0 := .pointer (some ⟨bb4, 0, none⟩)) (v := .pointer (some ⟨bb4, 0, none⟩)) hF1 (by kernel_rfl) (fun _ => by kernel_rfl) rfl fun a1 hF1 => ?_
      exact ⟨bb8, ((hF1.repl 8 (by kernel_rfl)).cast (by kernel_rfl)), (hM.cast (by kernel_rfl))⟩
     ·intro s0 s1 s2 s3 s4 s5 s6 s7 s8 s9 hc hi hp a w hS
      obtain rfl : s3 = false := hi
      obtain rfl : s2 = true := hp 2 (by kernel_rfl)
      obtain ⟨bb8, hF1, hM⟩ := hS
      refine eP 28 (v0 := .pointer (some ⟨bb4, 0, none⟩)) (v := .pointer (some ⟨bb4, 0, none⟩)) hF1 (by kernel_rfl) (fun _ => by kernel_rfl) rfl fun a1 hF1 => ?_
      exact ⟨bb8, ((hF1.repl 9 (by kernel_rfl)).cast (by kernel_rfl)), (hM.cast (by kernel_rfl))⟩
     ·intro s0 s1 s2 s3 s4 s5 s6 s7 s8 s9 hc hi hp a w hS
      obtain rfl : s4 = false := hi
      obtain rfl : s3 = true := hp 3 (by kernel_rfl)
      obtain ⟨bb8, hF1, hM⟩ := hS
      refine eL 29 8 0 (v := .slice A la.length ca) hF1 hM (by kernel_rfl) rfl rfl (by kernel_rfl) (by kernel_rfl) fun a1 w hF1 hM => ?_
      exact ⟨bb8, ((hF1.repl 10 (by kernel_rfl)).cast (by kernel_rfl)), (hM.cast (by kernel_rfl))⟩
     ·intro s0 s1 s2 s3 s4 s5 s6 s7 s8 s9 hc hi hp a w hS
      obtain rfl : s5 = false := hi
      obtain ⟨bb8, hF1, hM⟩ := hS
      refine eL 30 11 0 (v := .int .i64 (kk : Int)) hF1 hM (by kernel_rfl) rfl rfl (by kernel_rfl) (by kernel_rfl) fun a1 w hF1 hM => ?_
      exact ⟨bb8, ((hF1.repl 11 (by kernel_rfl)).cast (by kernel_rfl)), (hM.cast (by kernel_rfl))⟩
     ·intro s0 s1 s2 s3 s4 s5 s6 s7 s8 s9 hc hi hp a w hS
      obtain rfl : s6 = false := hi
      obtain rfl : s5 = true := hp 5 (by kernel_rfl)
      obtain rfl : s4 = true := hp 4 (by kernel_rfl)
      obtain ⟨bb8, hF1, hM⟩ := hS
      refine eM 31 (v := .pointer (some (ea A (kk * 7)))) hF1 hM (by kernel_rfl) (yld_ix (kd := .i64) (e := 57) (len := la.length) (cap := ca) (i := (kk : Int)) (size := 7) (A := A) hF1 rfl (by kernel_rfl) (by kernel_rfl) (by kernel_rfl) (by kernel_rfl) (by kernel_rfl) (roK 1 rfl) (by omega) (by omega) (by rw [flatR_length hW]; (try simp only [List.length_map, List.length_append, List.length_replicate, List.length_set, List.length_cons, List.length_nil, flat2_length, List.length_take]); omega)) fun a1 w hF1 hM => ?_
      exact ⟨bb8, ((hF1.repl 12 (by kernel_rfl)).cast (by kernel_rfl)), (hM.cast (by kernel_rfl))⟩
     ·intro s0 s1 s2 s3 s4 s5 s6 s7 s8 s9 hc hi hp a w hS
      obtain rfl : s7 = false := hi
      obtain rfl : s6 = true := hp 6 (by kernel_rfl)
      obtain ⟨bb8, hF1, hM⟩ := hS
      refine eM 32 (v := .agg #[.int .i64 (rc la kk 0), .int .i64 (rc la kk 1), .int .i64 (rc la kk 2), .int .i64 (rc la kk 3), .int .i64 (rc la kk 4), .int .i64 (rc la kk 5), .int .i64 (rc la kk 6)]) hF1 hM (by kernel_rfl) (yld_roM (A := A) (j := kk * 7) (us := [.int .i64 (rc la kk 0), .int .i64 (rc la kk 1), .int .i64 (rc la kk 2), .int .i64 (rc la kk 3), .int .i64 (rc la kk 4), .int .i64 (rc la kk 5), .int .i64 (rc la kk 6)]) hF1 rfl (by kernel_rfl) (by kernel_rfl) (roK 1 rfl) (by kernel_rfl) rfl (rc_sub (k := kk) (f := 0) (m := 7) hW (by omega) (by decide) rfl)) fun a1 w hF1 hM => ?_
      exact ⟨bb8, ((hF1.repl 13 (by kernel_rfl)).cast (by kernel_rfl)), (hM.cast (by kernel_rfl))⟩
     ·intro s0 s1 s2 s3 s4 s5 s6 s7 s8 s9 hc hi hp a w hS
      obtain rfl : s8 = false := hi
      obtain rfl : s9 = false := hc.f 9 8 (by kernel_rfl) rfl
      obtain ⟨bb8, hF1, hM⟩ := hS
      refine eN 10 12 (t := 57) (fun b => .pointer (some ⟨b, 0, none⟩)) #[.int .i64 0, .int .i64 0, .int .i64 0, .int .i64 0, .int .i64 0, .int .i64 0, .int .i64 0] hF1 hM (by kernel_rfl) (fun _ => by kernel_rfl) fun bb8 a1 w hF1 hM => ?_
      exact ⟨bb8, ((hF1.repl 5 (by kernel_rfl)).cast (by kernel_rfl)), ((hM.repl 11 (by kernel_rfl)).cast (by kernel_rfl))⟩
     ·intro s0 s1 s2 s3 s4 s5 s6 s7 s8 s9 hc hi hp a w hS
      obtain rfl : s9 = false := hi
      obtain rfl : s8 = true := hp 8 (by kernel_rfl)
      obtain rfl : s7 = true := hp 7 (by kernel_rfl)
      obtain ⟨bb8, hF1, hM⟩ := hS
      refine sStore (i := 12) (off := 0) (cs' := #[.int .i64 (rc la kk 0), .int .i64 (rc la kk 1), .int .i64 (rc la kk 2), .int .i64 (rc la kk 3), .int .i64 (rc la kk 4), .int .i64 (rc la kk 5), .int .i64 (rc la kk 6)]) hF1 hM (by kernel_rfl) rfl rfl (by kernel_rfl) (by kernel_rfl) rfl (by kernel_rfl) fun w hM => ?_
      exact ⟨bb8, (hF1.cast (by kernel_rfl)), ((hM.repl 11 (by kernel_rfl)).cast (by kernel_rfl))⟩
    ·intro a1 w hS
     obtain ⟨bb8, hF1, hM⟩ := hS
     replace hF1 : Fr 89 [(3, some (.int .i64 t)), (4, some (.pointer (some ⟨bb5, 0, none⟩))), (6, some (.pointer (some ⟨bb6, 0, none⟩))), (8, some (.int .i64 0)), (9, some (.pointer (some ⟨bb7, 0, none⟩))), (10, some (.pointer (some ⟨bb8, 0, none⟩))), (25, some (.pointer (some ⟨bb4, 0, none⟩))), (26, some (.pointer (some ⟨bb4, 0, none⟩))), (27, some (.pointer (some ⟨bb4, 0, none⟩))), (28, some (.pointer (some ⟨bb4, 0, none⟩))), (29, some (.slice A la.length ca)), (30, some (.int .i64 (kk : Int))), (31, some (.pointer (some (ea A (kk * 7))))), (32, some (.agg #[.int .i64 (rc la kk 0), .int .i64 (rc la kk 1), .int .i64 (rc la kk 2), .int .i64 (rc la kk 3), .int .i64 (rc la kk 4), .int .i64 (rc la kk 5), .int .i64 (rc la kk 6)]))] a1 := hF1.cast (by kernel_rfl)
     replace hM : Mem w0.heap.size w0 [(1, some (.ro A (flatR la))), (2, some (.ro A2 (flatR lq))), (3, some (.ro A3 (ls.map (Value.int .i64)))), (4, some (.ro A4 (flatR lm))), (5, some (.row bb1 27 #[.slice A la.length ca, .slice A2 lq.length cq_, .int .i64 now, .slice A3 ls.length cs, .slice A4 lm.length cm])), (6, some (.row bb2 39 #[.int .i64 i1, .int .i64 i2, .int .i64 i3, .int .i64 i4, .int .i64 i5])), (7, some (.row bb3 27 #[.slice none 0 0, .slice none 0 0, .int .i64 0, .slice none 0 0, .slice none 0 0])), (8, some (.row bb4 85 #[.slice A la.length ca, .slice A2 lq.length cq_, .int .i64 t, .slice A3 ls.length cs, .slice A4 lm.length cm])), (9, some (.row bb5 103 #[.pointer (some ⟨bb4, 0, none⟩)])), (10, some (.row bb6 39 #[.int .i64 i1, .int .i64 i2, .int .i64 i3, .int .i64 i4, .int .i64 i5])), (11, some (.row bb7 3 #[.int .i64 (kk : Int)])), (12, some (.row bb8 57 #[.int .i64 (rc la kk 0), .int .i64 (rc la kk 1), .int .i64 (rc la kk 2), .int .i64 (rc la kk 3), .int .i64 (rc la kk 4), .int .i64 (rc la kk 5), .int .i64 (rc la kk 6)]))] w := hM.cast (by kernel_rfl)
     refine hK24 _ _ ?_
     refine wp_seq_k fun K25 hK25 => ?_
     refine wp_seq_k fun K26 hK26 => ?_
     refine wp_region_lit ?_
     refine sB 1 [(33, .pointer (some ⟨bb8, 2, none⟩))] hF1 (by kernel_rfl) fun a1 hF1 => ?_
     refine wl (eL 34 12 2 (v := .int .i64 (rc la kk 2)) hF1 hM (by kernel_rfl) rfl rfl (by kernel_rfl) (by kernel_rfl) fun a1 w hF1 hM => ?_)
     refine sB 1 [(35, .bool (decide (rc la kk 2 = 6)))] hF1 (by kernel_rfl) fun a1 hF1 => ?_
     refine wpList_nil ?_
     refine hK26 _ _ ?_
     by_cases hz3 : rc la kk 2 = 6
     ·skip
      replace hF1 := hF1.c hF1 (i := 35) (v := .bool true) rfl (bT hz3)
      refine cT hF1 (by kernel_rfl) (by kernel_rfl) ?_
      refine wp_seq_k fun K27 hK27 => ?_
      refine wp_seq_k fun K28 hK28 => ?_
      refine wp_region_lit ?_
      refine sB 1 [(36, .pointer (some ⟨bb6, 3, none⟩))] hF1 (by kernel_rfl) fun a1 hF1 => ?_
      refine wl (eL 37 10 3 (v := .int .i64 i4) hF1 hM (by kernel_rfl) rfl rfl (by kernel_rfl) (by kernel_rfl) fun a1 w hF1 hM => ?_)
      refine sB 1 [(38, .pointer (some ⟨bb8, 3, none⟩))] hF1 (by kernel_rfl) fun a1 hF1 => ?_
      refine wl (eL 39 12 3 (v := .int .i64 (rc la kk 3)) hF1 hM (by kernel_rfl) rfl rfl (by kernel_rfl) (by kernel_rfl) fun a1 w hF1 hM => ?_)
      refine sB 1 [(40, .bool (decide (rc la kk 3 < i4)))] hF1 (by kernel_rfl) fun a1 hF1 => ?_
      refine wpList_nil ?_
      refine hK28 _ _ ?_
      by_cases hz4 : rc la kk 3 < i4
      ·skip
       replace hF1 := hF1.c hF1 (i := 40) (v := .bool true) rfl (bT hz4)
       refine cT hF1 (by kernel_rfl) (by kernel_rfl) ?_
       refine wp_seq_k fun K29 hK29 => ?_
       refine wp_region_lit ?_
       refine sB 1 [(8, .int .i64 2)] hF1 (by kernel_rfl) fun a1 hF1 => ?_
       refine wpList_nil ?_
       refine hK29 _ _ ?_
       refine wp_ret ?_
       refine hR17 _ _ ?_
       refine ret_of hF1 hM (.tmp rfl (.nil)) ⟨_, rfl, ?_⟩
       intro a hF
       refine sB 1 [(14, .int .i64 2)] hF (by kernel_rfl) fun a hF => ?_
       refine wpList_nil ?_
       refine hK16 _ _ ?_
       refine wp_seq_k fun K30 hK30 => ?_
       refine wp_region_lit ?_
       refine sB 1 [(55, .pointer (some ⟨bb4, 0, none⟩))] hF (by kernel_rfl) fun a hF => ?_
       refine wl (eL 56 8 0 (v := .agg #[.slice A la.length ca, .slice A2 lq.length cq_, .int .i64 t, .slice A3 ls.length cs, .slice A4 lm.length cm]) hF hM (by kernel_rfl) rfl rfl (by kernel_rfl) (by kernel_rfl) fun a w hF hM => ?_)
       refine sB 1 [(57, .int .i64 2)] hF (by kernel_rfl) fun a hF => ?_
       refine wl (sStore (i := 7) (off := 0) (cs' := #[.slice A la.length ca, .slice A2 lq.length cq_, .int .i64 t, .slice A3 ls.length cs, .slice A4 lm.length cm]) hF hM (by kernel_rfl) rfl rfl (by kernel_rfl) (by kernel_rfl) rfl (by kernel_rfl) fun w hM => ?_)
       refine sB 2 [(9, .int .i64 2), (10, .int .i64 0)] hF (by kernel_rfl) fun a hF => ?_
       refine wpList_nil ?_
       refine hK30 _ _ ?_
       refine wp_ret ?_
       refine hR0 _ _ ?_
       refine ret_of hF hM (.cell (i := 7) rfl rfl (v := .agg #[.slice A la.length ca, .slice A2 lq.length cq_, .int .i64 t, .slice A3 ls.length cs, .slice A4 lm.length cm]) (by kernel_rfl) (.tmp rfl (.tmp rfl (.nil)))) ?_
       have e2 := e.symm.trans (show psR la lq ls lm port i1 i3 i4 t = (ls, lm, 2) from by unfold psR; rw [if_neg (show ¬ i3 ≤ 5 by omega)]; have hA : psA la ls port i1 i3 i4 t = (ls, 2) := by { unfold psA; rw [if_neg (show ¬ regI port i1 i3 la < 0 by omega), hkk, Int.toNat_natCast, if_pos hz3, if_pos hz4] }; rw [hA])
       have eq1 := (Prod.mk.inj e2).1
       have eq2 := (Prod.mk.inj (Prod.mk.inj e2).2).1
       have eq3 := (Prod.mk.inj (Prod.mk.inj e2).2).2
       clear e2 e
       subst eq1 eq2 eq3
       subst e3 e4
       exact ⟨_, _, _, _, rfl, hM.roSame (k := 3) rfl, hM.roSame (k := 4) rfl, hM.bel⟩
      ·skip
       replace hF1 := hF1.c hF1 (i := 40) (v := .bool false) rfl (bF hz4)
       refine cF hF1 (by kernel_rfl) (by kernel_rfl) ?_
       refine wp_skip ?_
       refine hK27 _ _ ?_
       refine wp_seq_k fun K31 hK31 => ?_
       refine wp_region_lit ?_
       refine sB 1 [(8, .int .i64 0)] hF1 (by kernel_rfl) fun a1 hF1 => ?_
       refine wpList_nil ?_
       refine hK31 _ _ ?_
       refine wp_ret ?_
       refine hR17 _ _ ?_
       refine ret_of hF1 hM (.tmp rfl (.nil)) ⟨_, rfl, ?_⟩
       intro a hF
       refine sB 1 [(14, .int .i64 0)] hF (by kernel_rfl) fun a hF => ?_
       refine wpList_nil ?_
       refine hK16 _ _ ?_
       refine wp_seq_k fun K32 hK32 => ?_
       refine wp_region_lit ?_
       refine sB 1 [(55, .pointer (some ⟨bb4, 0, none⟩))] hF (by kernel_rfl) fun a hF => ?_
       refine wl (eL 56 8 0 (v := .agg #[.slice A la.length ca, .slice A2 lq.length cq_, .int .i64 t, .slice A3 ls.length cs, .slice A4 lm.length cm]) hF hM (by kernel_rfl) rfl rfl (by kernel_rfl) (by kernel_rfl) fun a w hF hM => ?_)
       refine sB 1 [(57, .int .i64 0)] hF (by kernel_rfl) fun a hF => ?_
       refine wl (sStore (i := 7) (off := 0) (cs' := #[.slice A la.length ca, .slice A2 lq.length cq_, .int .i64 t, .slice A3 ls.length cs, .slice A4 lm.length cm]) hF hM (by kernel_rfl) rfl rfl (by kernel_rfl) (by kernel_rfl) rfl (by kernel_rfl) fun w hM => ?_)
       refine sB 2 [(9, .int .i64 0), (10, .int .i64 0)] hF (by kernel_rfl) fun a hF => ?_
       refine wpList_nil ?_
       refine hK32 _ _ ?_
       refine wp_ret ?_
       refine hR0 _ _ ?_
       refine ret_of hF hM (.cell (i := 7) rfl rfl (v := .agg #[.slice A la.length ca, .slice A2 lq.length cq_, .int .i64 t, .slice A3 ls.length cs, .slice A4 lm.length cm]) (by kernel_rfl) (.tmp rfl (.tmp rfl (.nil)))) ?_
       have e2 := e.symm.trans (show psR la lq ls lm port i1 i3 i4 t = (ls, lm, 0) from by unfold psR; rw [if_neg (show ¬ i3 ≤ 5 by omega)]; have hA : psA la ls port i1 i3 i4 t = (ls, 0) := by { unfold psA; rw [if_neg (show ¬ regI port i1 i3 la < 0 by omega), hkk, Int.toNat_natCast, if_pos hz3, if_neg hz4] }; rw [hA])
       have eq1 := (Prod.mk.inj e2).1
       have eq2 := (Prod.mk.inj (Prod.mk.inj e2).2).1
       have eq3 := (Prod.mk.inj (Prod.mk.inj e2).2).2
       clear e2 e
       subst eq1 eq2 eq3
       subst e3 e4
       exact ⟨_, _, _, _, rfl, hM.roSame (k := 3) rfl, hM.roSame (k := 4) rfl, hM.bel⟩
     ·skip
      replace hF1 := hF1.c hF1 (i := 35) (v := .bool false) rfl (bF hz3)
      refine cF hF1 (by kernel_rfl) (by kernel_rfl) ?_
      refine wp_skip ?_
      refine hK25 _ _ ?_
      refine wp_seq_k fun K33 hK33 => ?_
      have hva := va_7 (va_k h0 hklt) hz3
      refine wp_region_lit ?_
      refine sB 2 [(41, .int .i64 t), (42, .pointer (some ⟨bb8, 5, none⟩))] hF1 (by kernel_rfl) fun a1 hF1 => ?_
      refine wl (eL 43 12 5 (v := .int .i64 (rc la kk 5)) hF1 hM (by kernel_rfl) rfl rfl (by kernel_rfl) (by kernel_rfl) fun a1 w hF1 hM => ?_)
      refine wl (eP 44 (v0 := .int .i64 (IntKind.i64.wrap (t - rc la kk 5))) (v := .int .i64 (t - rc la kk 5)) hF1 (by kernel_rfl) (fun _ => by kernel_rfl) (wi (by omega)) fun a1 hF1 => ?_)
      refine sB 1 [(45, .pointer (some ⟨bb8, 4, none⟩))] hF1 (by kernel_rfl) fun a1 hF1 => ?_
      refine wl (eL 46 12 4 (v := .int .i64 (rc la kk 4)) hF1 hM (by kernel_rfl) rfl rfl (by kernel_rfl) (by kernel_rfl) fun a1 w hF1 hM => ?_)
      obtain ⟨io, hio⟩ : ∃ z : Int, (t - rc la kk 5) % rc la kk 4 = z := ⟨_, rfl⟩
      have hbio : 0 ≤ io ∧ io < rc la kk 4 := by rw [← hio]; exact ⟨Int.emod_nonneg _ (by omega), Int.emod_lt_of_pos _ (by omega)⟩
      refine wl (eM 47 (v := .int .i64 io) hF1 hM (by kernel_rfl) (yld_call (f := 57) (args := #[.int .i64 (t - rc la kk 5), .int .i64 (rc la kk 4)]) hF1 (by kernel_rfl) (fun _ => by kernel_rfl) (fun w hM => by rw [← hio]; exact fimod_w (t - rc la kk 5) (rc la kk 4) w (by omega))) fun a1 w hF1 hM => ?_)
      refine wl (eN 11 13 (t := 3) (fun b => .pointer (some ⟨b, 0, none⟩)) #[.int .i64 0] hF1 hM (by kernel_rfl) (fun _ => by kernel_rfl) fun bb9 a1 w hF1 hM => ?_)
      refine wl (sStore (i := 13) (off := 0) (cs' := #[.int .i64 io]) hF1 hM (by kernel_rfl) rfl rfl (by kernel_rfl) (by kernel_rfl) rfl (by kernel_rfl) fun w hM => ?_)
      refine wpList_nil ?_
      refine hK33 _ _ ?_
      refine wp_seq_k fun K34 hK34 => ?_
      refine wp_region_lit ?_
      refine sB 2 [(48, .int .i64 t), (49, .pointer (some ⟨bb8, 5, none⟩))] hF1 (by kernel_rfl) fun a1 hF1 => ?_
      refine wl (eL 50 12 5 (v := .int .i64 (rc la kk 5)) hF1 hM (by kernel_rfl) rfl rfl (by kernel_rfl) (by kernel_rfl) fun a1 w hF1 hM => ?_)
      refine wl (eP 51 (v0 := .int .i64 (IntKind.i64.wrap (t - rc la kk 5))) (v := .int .i64 (t - rc la kk 5)) hF1 (by kernel_rfl) (fun _ => by kernel_rfl) (wi (by omega)) fun a1 hF1 => ?_)
      refine wl (eL 52 13 0 (v := .int .i64 io) hF1 hM (by kernel_rfl) rfl rfl (by kernel_rfl) (by kernel_rfl) fun a1 w hF1 hM => ?_)
      refine wl (eP 53 (v0 := .int .i64 (IntKind.i64.wrap (t - rc la kk 5 - io))) (v := .int .i64 (t - rc la kk 5 - io)) hF1 (by kernel_rfl) (fun _ => by kernel_rfl) (wi (by omega)) fun a1 hF1 => ?_)
      refine sB 1 [(54, .pointer (some ⟨bb8, 4, none⟩))] hF1 (by kernel_rfl) fun a1 hF1 => ?_
      refine wl (eL 55 12 4 (v := .int .i64 (rc la kk 4)) hF1 hM (by kernel_rfl) rfl rfl (by kernel_rfl) (by kernel_rfl) fun a1 w hF1 hM => ?_)
      obtain ⟨pe, hpe⟩ : ∃ z : Int, (t - rc la kk 5) / rc la kk 4 = z := ⟨_, rfl⟩
      refine wl (eM 56 (v := .int .i64 pe) hF1 hM (by kernel_rfl) (yld_quo (t - rc la kk 5 - io) (rc la kk 4) hF1 rfl (by kernel_rfl) (by kernel_rfl) (by kernel_rfl) (by omega) ((qany (by omega) (by omega)).trans (by rw [← hio, quo_floor (by omega), hpe]))) fun a1 w hF1 hM => ?_)
      refine wl (eN 12 14 (t := 3) (fun b => .pointer (some ⟨b, 0, none⟩)) #[.int .i64 0] hF1 hM (by kernel_rfl) (fun _ => by kernel_rfl) fun bb10 a1 w hF1 hM => ?_)
      refine wl (sStore (i := 14) (off := 0) (cs' := #[.int .i64 pe]) hF1 hM (by kernel_rfl) rfl rfl (by kernel_rfl) (by kernel_rfl) rfl (by kernel_rfl) fun w hM => ?_)
      refine wpList_nil ?_
      refine hK34 _ _ ?_
      refine wp_seq_k fun K35 hK35 => ?_
      refine wp_region_lit ?_
      refine sB 7 [(57, .func (.func 58) #[] #[.pointer (some ⟨bb6, 0, none⟩), .pointer (some ⟨bb8, 0, none⟩)]), (58, .agg #[.func (.func 58) #[] #[.pointer (some ⟨bb6, 0, none⟩), .pointer (some ⟨bb8, 0, none⟩)], .int .i64 2]), (59, .func (.func 59) #[] #[.pointer (some ⟨bb10, 0, none⟩), .pointer (some ⟨bb9, 0, none⟩), .pointer (some ⟨bb8, 0, none⟩)]), (60, .agg #[.func (.func 59) #[] #[.pointer (some ⟨bb10, 0, none⟩), .pointer (some ⟨bb9, 0, none⟩), .pointer (some ⟨bb8, 0, none⟩)], .int .i64 3]), (61, .func (.func 60) #[] #[.pointer (some ⟨bb10, 0, none⟩), .pointer (some ⟨bb5, 0, none⟩), .pointer (some ⟨bb7, 0, none⟩)]), (62, .agg #[.func (.func 60) #[] #[.pointer (some ⟨bb10, 0, none⟩), .pointer (some ⟨bb5, 0, none⟩), .pointer (some ⟨bb7, 0, none⟩)], .int .i64 4]), (63, .agg #[.func (.func 58) #[] #[.pointer (some ⟨bb6, 0, none⟩), .pointer (some ⟨bb8, 0, none⟩)], .int .i64 2, .func (.func 59) #[] #[.pointer (some ⟨bb10, 0, none⟩), .pointer (some ⟨bb9, 0, none⟩), .pointer (some ⟨bb8, 0, none⟩)], .int .i64 3, .func (.func 60) #[] #[.pointer (some ⟨bb10, 0, none⟩), .pointer (some ⟨bb5, 0, none⟩), .pointer (some ⟨bb7, 0, none⟩)], .int .i64 4])] hF1 (by kernel_rfl) fun a1 hF1 => ?_
      refine wl (eN 13 15 (t := 107) (fun b => .pointer (some ⟨b, 0, none⟩)) #[.nilFunc, .int .i64 0, .nilFunc, .int .i64 0, .nilFunc, .int .i64 0] hF1 hM (by kernel_rfl) (fun _ => by kernel_rfl) fun bb11 a1 w hF1 hM => ?_)
      refine wl (sStore (i := 15) (off := 0) (cs' := #[.func (.func 58) #[] #[.pointer (some ⟨bb6, 0, none⟩), .pointer (some ⟨bb8, 0, none⟩)], .int .i64 2, .func (.func 59) #[] #[.pointer (some ⟨bb10, 0, none⟩), .pointer (some ⟨bb9, 0, none⟩), .pointer (some ⟨bb8, 0, none⟩)], .int .i64 3, .func (.func 60) #[] #[.pointer (some ⟨bb10, 0, none⟩), .pointer (some ⟨bb5, 0, none⟩), .pointer (some ⟨bb7, 0, none⟩)], .int .i64 4]) hF1 hM (by kernel_rfl) rfl rfl (by kernel_rfl) (by kernel_rfl) rfl (by kernel_rfl) fun w hM => ?_)
      refine wpList_nil ?_
      refine hK35 _ _ ?_
      refine wp_seq_k fun K36 hK36 => ?_
      refine wp_region_lit ?_
      refine sB 1 [(14, .int .i64 0)] hF1 (by kernel_rfl) fun a1 hF1 => ?_
      refine wpList_nil ?_
      refine hK36 _ _ ?_
      refine wp_seq_k fun K37 hK37 => ?_
      refine wp_label ?_
      refine hK37 _ _ ?_
      refine wp_seq_k fun K38 hK38 => ?_
      refine wp_seq_k fun K39 hK39 => ?_
      refine wp_region_lit ?_
      refine wl (eL 64 15 0 (v := .agg #[.func (.func 58) #[] #[.pointer (some ⟨bb6, 0, none⟩), .pointer (some ⟨bb8, 0, none⟩)], .int .i64 2, .func (.func 59) #[] #[.pointer (some ⟨bb10, 0, none⟩), .pointer (some ⟨bb9, 0, none⟩), .pointer (some ⟨bb8, 0, none⟩)], .int .i64 3, .func (.func 60) #[] #[.pointer (some ⟨bb10, 0, none⟩), .pointer (some ⟨bb5, 0, none⟩), .pointer (some ⟨bb7, 0, none⟩)], .int .i64 4]) hF1 hM (by kernel_rfl) rfl rfl (by kernel_rfl) (by kernel_rfl) fun a1 w hF1 hM => ?_)
      refine sB 1 [(65, .int .i64 0)] hF1 (by kernel_rfl) fun a1 hF1 => ?_
      refine wpList_nil ?_
      refine hK39 _ _ ?_
      refine wp_block ?_
      refine wp_loop_rounds 4 ?_
      refine rounds_k fun K40 hK40 => ?_
      refine wp_seq_k fun K41 hK41 => ?_
      refine wp_region_lit ?_
      refine wl (eP 66 (v0 := .bool (decide (0 < 3))) (v := .bool true) hF1 (by kernel_rfl) (fun _ => by kernel_rfl) (bT (by omega)) fun a1 hF1 => ?_)
      refine wpList_nil ?_
      refine hK41 _ _ ?_
      refine wp_seq_k fun K42 hK42 => ?_
      refine cT hF1 (by kernel_rfl) (by kernel_rfl) ?_
      refine wp_skip ?_
      refine hK42 _ _ ?_
      refine wp_seq_k fun K43 hK43 => ?_
      refine wp_block ?_
      refine wp_seq_k fun K44 hK44 => ?_
      refine wp_region_lit ?_
      refine sB 1 [(67, .agg #[.func (.func 58) #[] #[.pointer (some ⟨bb6, 0, none⟩), .pointer (some ⟨bb8, 0, none⟩)], .int .i64 2])] hF1 (by kernel_rfl) fun a1 hF1 => ?_
      refine wl (eN 16 16 (t := 106) (fun b => .pointer (some ⟨b, 0, none⟩)) #[.nilFunc, .int .i64 0] hF1 hM (by kernel_rfl) (fun _ => by kernel_rfl) fun bb12 a1 w hF1 hM => ?_)
      refine wl (sStore (i := 16) (off := 0) (cs' := #[.func (.func 58) #[] #[.pointer (some ⟨bb6, 0, none⟩), .pointer (some ⟨bb8, 0, none⟩)], .int .i64 2]) hF1 hM (by kernel_rfl) rfl rfl (by kernel_rfl) (by kernel_rfl) rfl (by kernel_rfl) fun w hM => ?_)
      refine wpList_nil ?_
      refine hK44 _ _ ?_
      refine wp_seq_k fun K45 hK45 => ?_
      refine wp_region_lit ?_
      refine sB 1 [(68, .pointer (some ⟨bb12, 0, none⟩))] hF1 (by kernel_rfl) fun a1 hF1 => ?_
      refine wl (eL 69 16 0 (v := .func (.func 58) #[] #[.pointer (some ⟨bb6, 0, none⟩), .pointer (some ⟨bb8, 0, none⟩)]) hF1 hM (by kernel_rfl) rfl rfl (by kernel_rfl) (by kernel_rfl) fun a1 w hF1 hM => ?_)
      refine wl (sC (f := 58) (args := #[.pointer (some ⟨bb6, 0, none⟩), .pointer (some ⟨bb8, 0, none⟩)]) hF1 (by kernel_rfl) rfl (by decide) (by kernel_rfl) (fun _ => by kernel_rfl) ?_)
      refine enterK 8 Try.func58 rfl rfl rfl ?_
      intro a2 hF2 QR46 hR46 hNR46
      refine wp_seq_k fun K47 hK47 => ?_
      refine wp_region_lit ?_
      refine sB 1 [(2, .bool false)] hF2 (by kernel_rfl) fun a2 hF2 => ?_
      refine wpList_nil ?_
      refine hK47 _ _ ?_
      refine wp_seq_k fun K48 hK48 => ?_
      have hln := fl_len (fl_p h0)
      have hvi := vi_bd hv
      refine wp_region_lit ?_
      refine sB 1 [(3, .pointer (some ⟨bb6, 3, none⟩))] hF2 (by kernel_rfl) fun a2 hF2 => ?_
      refine wl (eL 4 10 3 (v := .int .i64 i4) hF2 hM (by kernel_rfl) rfl rfl (by kernel_rfl) (by kernel_rfl) fun a2 w hF2 hM => ?_)
      refine sB 1 [(5, .pointer (some ⟨bb8, 3, none⟩))] hF2 (by kernel_rfl) fun a2 hF2 => ?_
      refine wl (eL 6 12 3 (v := .int .i64 (rc la kk 3)) hF2 hM (by kernel_rfl) rfl rfl (by kernel_rfl) (by kernel_rfl) fun a2 w hF2 hM => ?_)
      refine sB 2 [(7, .bool (!decide (i4 = rc la kk 3))), (2, .bool (!decide (i4 = rc la kk 3)))] hF2 (by kernel_rfl) fun a2 hF2 => ?_
      refine wpList_nil ?_
      refine hK48 _ _ ?_
      refine wp_ret ?_
      refine hR46 _ _ ?_
      refine ret_of hF2 hM (.tmp rfl (.nil)) ⟨_, rfl, ?_⟩
      intro a1 hF1
      refine wpList_nil ?_
      refine hK45 _ _ ?_
      by_cases hz5 : i4 = rc la kk 3
      ·skip
       replace hF1 := hF1.c hF1 (i := 70) (v := .bool false) rfl (nT hz5)
       refine cF hF1 (by kernel_rfl) (by kernel_rfl) ?_
       refine wp_skip ?_
       refine hK43 _ _ ?_
       refine wp_region_lit ?_
       refine wl (eP 73 (v0 := .int .i64 (IntKind.i64.wrap (0 + 1))) (v := .int .i64 1) hF1 (by kernel_rfl) (fun _ => by kernel_rfl) (vi (by decide)) fun a1 hF1 => ?_)
       refine sB 1 [(65, .int .i64 1)] hF1 (by kernel_rfl) fun a1 hF1 => ?_
       refine wpList_nil ?_
       refine hK40 _ _ ?_
       refine rounds_k fun K49 hK49 => ?_
       refine wp_seq_k fun K50 hK50 => ?_
       refine wp_region_lit ?_
       refine wl (eP 66 (v0 := .bool (decide (1 < 3))) (v := .bool true) hF1 (by kernel_rfl) (fun _ => by kernel_rfl) (bT (by omega)) fun a1 hF1 => ?_)
       refine wpList_nil ?_
       refine hK50 _ _ ?_
       refine wp_seq_k fun K51 hK51 => ?_
       refine cT hF1 (by kernel_rfl) (by kernel_rfl) ?_
       refine wp_skip ?_
       refine hK51 _ _ ?_
       refine wp_seq_k fun K52 hK52 => ?_
       refine wp_block ?_
       refine wp_seq_k fun K53 hK53 => ?_
       refine wp_region_lit ?_
       refine sB 1 [(67, .agg #[.func (.func 59) #[] #[.pointer (some ⟨bb10, 0, none⟩), .pointer (some ⟨bb9, 0, none⟩), .pointer (some ⟨bb8, 0, none⟩)], .int .i64 3])] hF1 (by kernel_rfl) fun a1 hF1 => ?_
       refine wl (eN 16 17 (t := 106) (fun b => .pointer (some ⟨b, 0, none⟩)) #[.nilFunc, .int .i64 0] hF1 hM (by kernel_rfl) (fun _ => by kernel_rfl) fun bb13 a1 w hF1 hM => ?_)
       refine wl (sStore (i := 17) (off := 0) (cs' := #[.func (.func 59) #[] #[.pointer (some ⟨bb10, 0, none⟩), .pointer (some ⟨bb9, 0, none⟩), .pointer (some ⟨bb8, 0, none⟩)], .int .i64 3]) hF1 hM (by kernel_rfl) rfl rfl (by kernel_rfl) (by kernel_rfl) rfl (by kernel_rfl) fun w hM => ?_)
       refine wpList_nil ?_
       refine hK53 _ _ ?_
       refine wp_seq_k fun K54 hK54 => ?_
       refine wp_region_lit ?_
       refine sB 1 [(68, .pointer (some ⟨bb13, 0, none⟩))] hF1 (by kernel_rfl) fun a1 hF1 => ?_
       refine wl (eL 69 17 0 (v := .func (.func 59) #[] #[.pointer (some ⟨bb10, 0, none⟩), .pointer (some ⟨bb9, 0, none⟩), .pointer (some ⟨bb8, 0, none⟩)]) hF1 hM (by kernel_rfl) rfl rfl (by kernel_rfl) (by kernel_rfl) fun a1 w hF1 hM => ?_)
       refine wl (sC (f := 59) (args := #[.pointer (some ⟨bb10, 0, none⟩), .pointer (some ⟨bb9, 0, none⟩), .pointer (some ⟨bb8, 0, none⟩)]) hF1 (by kernel_rfl) rfl (by decide) (by kernel_rfl) (fun _ => by kernel_rfl) ?_)
       refine enterK 15 Try.func59 rfl rfl rfl ?_
       intro a2 hF2 QR55 hR55 hNR55
       refine wp_seq_k fun K56 hK56 => ?_
       refine wp_region_lit ?_
       refine sB 1 [(3, .bool false)] hF2 (by kernel_rfl) fun a2 hF2 => ?_
       refine wpList_nil ?_
       refine hK56 _ _ ?_
       refine wp_seq_k fun K57 hK57 => ?_
       have hln := fl_len (fl_p h0)
       have hvi := vi_bd hv
       by_cases hz6 : pe < 0
       ·skip
        have hln := fl_len (fl_p h0)
        have hvi := vi_bd hv
        refine wp_region_lit ?_
        refine wl (eL 4 14 0 (v := .int .i64 pe) hF2 hM (by kernel_rfl) rfl rfl (by kernel_rfl) (by kernel_rfl) fun a2 w hF2 hM => ?_)
        refine wl (eP 5 (v0 := .bool (decide (pe < 0))) (v := .bool true) hF2 (by kernel_rfl) (fun _ => by kernel_rfl) (bT hz6) fun a2 hF2 => ?_)
        refine sB 10 [(6, .bool true), (7, undef), (8, undef), (9, undef), (10, undef), (11, undef), (12, undef), (13, undef), (14, .bool true), (3, .bool true)] hF2 (by kernel_rfl) fun a2 hF2 => ?_
        refine wpList_nil ?_
        refine hK57 _ _ ?_
        refine wp_ret ?_
        refine hR55 _ _ ?_
        refine ret_of hF2 hM (.tmp rfl (.nil)) ⟨_, rfl, ?_⟩
        intro a1 hF1
        refine wpList_nil ?_
        refine hK54 _ _ ?_
        refine cT hF1 (by kernel_rfl) (by kernel_rfl) ?_
        refine wp_seq_k fun K58 hK58 => ?_
        refine wp_region_lit ?_
        refine sB 1 [(71, .pointer (some ⟨bb13, 1, none⟩))] hF1 (by kernel_rfl) fun a1 hF1 => ?_
        refine wl (eL 72 17 1 (v := .int .i64 3) hF1 hM (by kernel_rfl) rfl rfl (by kernel_rfl) (by kernel_rfl) fun a1 w hF1 hM => ?_)
        refine sB 1 [(14, .int .i64 3)] hF1 (by kernel_rfl) fun a1 hF1 => ?_
        refine wpList_nil ?_
        refine hK58 _ _ ?_
        refine wp_exit ?_
        refine hK38 _ _ ?_
        refine wp_seq_k fun K59 hK59 => ?_
        refine wp_seq_k fun K60 hK60 => ?_
        refine wp_region_lit ?_
        refine sB 1 [(74, .int .i64 3)] hF1 (by kernel_rfl) fun a1 hF1 => ?_
        refine wl (eP 75 (v0 := .bool (decide (3 = 0))) (v := .bool false) hF1 (by kernel_rfl) (fun _ => by kernel_rfl) (bF (by omega)) fun a1 hF1 => ?_)
        refine wpList_nil ?_
        refine hK60 _ _ ?_
        refine cF hF1 (by kernel_rfl) (by kernel_rfl) ?_
        refine wp_skip ?_
        refine hK59 _ _ ?_
        refine wp_seq_k fun K61 hK61 => ?_
        refine wp_region_lit ?_
        refine sB 2 [(88, .int .i64 3), (8, .int .i64 3)] hF1 (by kernel_rfl) fun a1 hF1 => ?_
        refine wpList_nil ?_
        refine hK61 _ _ ?_
        refine wp_ret ?_
        refine hR17 _ _ ?_
        refine ret_of hF1 hM (.tmp rfl (.nil)) ⟨_, rfl, ?_⟩
        intro a hF
        refine sB 1 [(14, .int .i64 3)] hF (by kernel_rfl) fun a hF => ?_
        refine wpList_nil ?_
        refine hK16 _ _ ?_
        refine wp_seq_k fun K62 hK62 => ?_
        refine wp_region_lit ?_
        refine sB 1 [(55, .pointer (some ⟨bb4, 0, none⟩))] hF (by kernel_rfl) fun a hF => ?_
        refine wl (eL 56 8 0 (v := .agg #[.slice A la.length ca, .slice A2 lq.length cq_, .int .i64 t, .slice A3 ls.length cs, .slice A4 lm.length cm]) hF hM (by kernel_rfl) rfl rfl (by kernel_rfl) (by kernel_rfl) fun a w hF hM => ?_)
        refine sB 1 [(57, .int .i64 3)] hF (by kernel_rfl) fun a hF => ?_
        refine wl (sStore (i := 7) (off := 0) (cs' := #[.slice A la.length ca, .slice A2 lq.length cq_, .int .i64 t, .slice A3 ls.length cs, .slice A4 lm.length cm]) hF hM (by kernel_rfl) rfl rfl (by kernel_rfl) (by kernel_rfl) rfl (by kernel_rfl) fun w hM => ?_)
        refine sB 2 [(9, .int .i64 3), (10, .int .i64 0)] hF (by kernel_rfl) fun a hF => ?_
        refine wpList_nil ?_
        refine hK62 _ _ ?_
        refine wp_ret ?_
        refine hR0 _ _ ?_
        refine ret_of hF hM (.cell (i := 7) rfl rfl (v := .agg #[.slice A la.length ca, .slice A2 lq.length cq_, .int .i64 t, .slice A3 ls.length cs, .slice A4 lm.length cm]) (by kernel_rfl) (.tmp rfl (.tmp rfl (.nil)))) ?_
        have e2 := e.symm.trans (show psR la lq ls lm port i1 i3 i4 t = (ls, lm, 3) from by unfold psR; rw [if_neg (show ¬ i3 ≤ 5 by omega)]; have hA : psA la ls port i1 i3 i4 t = (ls, 3) := by { unfold psA; rw [if_neg (show ¬ regI port i1 i3 la < 0 by omega), hkk, Int.toNat_natCast, if_neg hz3]; first | (rw [if_pos (by omega)]; done) | (rw [if_neg (by omega)]; first | (rw [if_pos (by omega)]; done) | (rw [if_neg (by omega)]; first | (rw [if_pos (by omega)]; done) | rw [if_neg (by omega), hpe])) }; rw [hA])
        have eq1 := (Prod.mk.inj e2).1
        have eq2 := (Prod.mk.inj (Prod.mk.inj e2).2).1
        have eq3 := (Prod.mk.inj (Prod.mk.inj e2).2).2
        clear e2 e
        subst eq1 eq2 eq3
        subst e3 e4
        exact ⟨_, _, _, _, rfl, hM.roSame (k := 3) rfl, hM.roSame (k := 4) rfl, hM.bel⟩
       ·skip
        have hln := fl_len (fl_p h0)
        have hvi := vi_bd hv
        refine wp_region_lit ?_
        refine wl (eL 4 14 0 (v := .int .i64 pe) hF2 hM (by kernel_rfl) rfl rfl (by kernel_rfl) (by kernel_rfl) fun a2 w hF2 hM => ?_)
        refine wl (eP 5 (v0 := .bool (decide (pe < 0))) (v := .bool false) hF2 (by kernel_rfl) (fun _ => by kernel_rfl) (bF hz6) fun a2 hF2 => ?_)
        refine sB 1 [(6, .bool false)] hF2 (by kernel_rfl) fun a2 hF2 => ?_
        refine wl (eL 7 13 0 (v := .int .i64 io) hF2 hM (by kernel_rfl) rfl rfl (by kernel_rfl) (by kernel_rfl) fun a2 w hF2 hM => ?_)
        refine sB 1 [(8, .pointer (some ⟨bb8, 6, none⟩))] hF2 (by kernel_rfl) fun a2 hF2 => ?_
        refine wl (eL 9 12 6 (v := .int .i64 (rc la kk 6)) hF2 hM (by kernel_rfl) rfl rfl (by kernel_rfl) (by kernel_rfl) fun a2 w hF2 hM => ?_)
        refine sB 1 [(10, .pointer (some ⟨bb8, 5, none⟩))] hF2 (by kernel_rfl) fun a2 hF2 => ?_
        refine wl (eL 11 12 5 (v := .int .i64 (rc la kk 5)) hF2 hM (by kernel_rfl) rfl rfl (by kernel_rfl) (by kernel_rfl) fun a2 w hF2 hM => ?_)
        refine wl (eP 12 (v0 := .int .i64 (IntKind.i64.wrap (rc la kk 6 - rc la kk 5))) (v := .int .i64 (rc la kk 6 - rc la kk 5)) hF2 (by kernel_rfl) (fun _ => by kernel_rfl) (wi (by omega)) fun a2 hF2 => ?_)
        refine sB 3 [(13, .bool (decide (rc la kk 6 - rc la kk 5 < io))), (14, .bool (decide (rc la kk 6 - rc la kk 5 < io))), (3, .bool (decide (rc la kk 6 - rc la kk 5 < io)))] hF2 (by kernel_rfl) fun a2 hF2 => ?_
        refine wpList_nil ?_
        refine hK57 _ _ ?_
        refine wp_ret ?_
        refine hR55 _ _ ?_
        refine ret_of hF2 hM (.tmp rfl (.nil)) ⟨_, rfl, ?_⟩
        intro a1 hF1
        refine wpList_nil ?_
        refine hK54 _ _ ?_
        by_cases hz7 : rc la kk 6 - rc la kk 5 < io
        ·skip
         replace hF1 := hF1.c hF1 (i := 70) (v := .bool true) rfl (bT hz7)
         refine cT hF1 (by kernel_rfl) (by kernel_rfl) ?_
         refine wp_seq_k fun K63 hK63 => ?_
         refine wp_region_lit ?_
         refine sB 1 [(71, .pointer (some ⟨bb13, 1, none⟩))] hF1 (by kernel_rfl) fun a1 hF1 => ?_
         refine wl (eL 72 17 1 (v := .int .i64 3) hF1 hM (by kernel_rfl) rfl rfl (by kernel_rfl) (by kernel_rfl) fun a1 w hF1 hM => ?_)
         refine sB 1 [(14, .int .i64 3)] hF1 (by kernel_rfl) fun a1 hF1 => ?_
         refine wpList_nil ?_
         refine hK63 _ _ ?_
         refine wp_exit ?_
         refine hK38 _ _ ?_
         refine wp_seq_k fun K64 hK64 => ?_
         refine wp_seq_k fun K65 hK65 => ?_
         refine wp_region_lit ?_
         refine sB 1 [(74, .int .i64 3)] hF1 (by kernel_rfl) fun a1 hF1 => ?_
         refine wl (eP 75 (v0 := .bool (decide (3 = 0))) (v := .bool false) hF1 (by kernel_rfl) (fun _ => by kernel_rfl) (bF (by omega)) fun a1 hF1 => ?_)
         refine wpList_nil ?_
         refine hK65 _ _ ?_
         refine cF hF1 (by kernel_rfl) (by kernel_rfl) ?_
         refine wp_skip ?_
         refine hK64 _ _ ?_
         refine wp_seq_k fun K66 hK66 => ?_
         refine wp_region_lit ?_
         refine sB 2 [(88, .int .i64 3), (8, .int .i64 3)] hF1 (by kernel_rfl) fun a1 hF1 => ?_
         refine wpList_nil ?_
         refine hK66 _ _ ?_
         refine wp_ret ?_
         refine hR17 _ _ ?_
         refine ret_of hF1 hM (.tmp rfl (.nil)) ⟨_, rfl, ?_⟩
         intro a hF
         refine sB 1 [(14, .int .i64 3)] hF (by kernel_rfl) fun a hF => ?_
         refine wpList_nil ?_
         refine hK16 _ _ ?_
         refine wp_seq_k fun K67 hK67 => ?_
         refine wp_region_lit ?_
         refine sB 1 [(55, .pointer (some ⟨bb4, 0, none⟩))] hF (by kernel_rfl) fun a hF => ?_
         refine wl (eL 56 8 0 (v := .agg #[.slice A la.length ca, .slice A2 lq.length cq_, .int .i64 t, .slice A3 ls.length cs, .slice A4 lm.length cm]) hF hM (by kernel_rfl) rfl rfl (by kernel_rfl) (by kernel_rfl) fun a w hF hM => ?_)
         refine sB 1 [(57, .int .i64 3)] hF (by kernel_rfl) fun a hF => ?_
         refine wl (sStore (i := 7) (off := 0) (cs' := #[.slice A la.length ca, .slice A2 lq.length cq_, .int .i64 t, .slice A3 ls.length cs, .slice A4 lm.length cm]) hF hM (by kernel_rfl) rfl rfl (by kernel_rfl) (by kernel_rfl) rfl (by kernel_rfl) fun w hM => ?_)
         refine sB 2 [(9, .int .i64 3), (10, .int .i64 0)] hF (by kernel_rfl) fun a hF => ?_
         refine wpList_nil ?_
         refine hK67 _ _ ?_
         refine wp_ret ?_
         refine hR0 _ _ ?_
         refine ret_of hF hM (.cell (i := 7) rfl rfl (v := .agg #[.slice A la.length ca, .slice A2 lq.length cq_, .int .i64 t, .slice A3 ls.length cs, .slice A4 lm.length cm]) (by kernel_rfl) (.tmp rfl (.tmp rfl (.nil)))) ?_
         have e2 := e.symm.trans (show psR la lq ls lm port i1 i3 i4 t = (ls, lm, 3) from by unfold psR; rw [if_neg (show ¬ i3 ≤ 5 by omega)]; have hA : psA la ls port i1 i3 i4 t = (ls, 3) := by { unfold psA; rw [if_neg (show ¬ regI port i1 i3 la < 0 by omega), hkk, Int.toNat_natCast, if_neg hz3]; first | (rw [if_pos (by omega)]; done) | (rw [if_neg (by omega)]; first | (rw [if_pos (by omega)]; done) | (rw [if_neg (by omega)]; first | (rw [if_pos (by omega)]; done) | rw [if_neg (by omega), hpe])) }; rw [hA])
         have eq1 := (Prod.mk.inj e2).1
         have eq2 := (Prod.mk.inj (Prod.mk.inj e2).2).1
         have eq3 := (Prod.mk.inj (Prod.mk.inj e2).2).2
         clear e2 e
         subst eq1 eq2 eq3
         subst e3 e4
         exact ⟨_, _, _, _, rfl, hM.roSame (k := 3) rfl, hM.roSame (k := 4) rfl, hM.bel⟩
        ·skip
         replace hF1 := hF1.c hF1 (i := 70) (v := .bool false) rfl (bF hz7)
         refine cF hF1 (by kernel_rfl) (by kernel_rfl) ?_
         refine wp_skip ?_
         refine hK52 _ _ ?_
         refine wp_region_lit ?_
         refine wl (eP 73 (v0 := .int .i64 (IntKind.i64.wrap (1 + 1))) (v := .int .i64 2) hF1 (by kernel_rfl) (fun _ => by kernel_rfl) (vi (by decide)) fun a1 hF1 => ?_)
         refine sB 1 [(65, .int .i64 2)] hF1 (by kernel_rfl) fun a1 hF1 => ?_
         refine wpList_nil ?_
         refine hK49 _ _ ?_
         refine rounds_k fun K68 hK68 => ?_
         refine wp_seq_k fun K69 hK69 => ?_
         refine wp_region_lit ?_
         refine wl (eP 66 (v0 := .bool (decide (2 < 3))) (v := .bool true) hF1 (by kernel_rfl) (fun _ => by kernel_rfl) (bT (by omega)) fun a1 hF1 => ?_)
         refine wpList_nil ?_
         refine hK69 _ _ ?_
         refine wp_seq_k fun K70 hK70 => ?_
         refine cT hF1 (by kernel_rfl) (by kernel_rfl) ?_
         refine wp_skip ?_
         refine hK70 _ _ ?_
         refine wp_seq_k fun K71 hK71 => ?_
         refine wp_block ?_
         refine wp_seq_k fun K72 hK72 => ?_
         refine wp_region_lit ?_
         refine sB 1 [(67, .agg #[.func (.func 60) #[] #[.pointer (some ⟨bb10, 0, none⟩), .pointer (some ⟨bb5, 0, none⟩), .pointer (some ⟨bb7, 0, none⟩)], .int .i64 4])] hF1 (by kernel_rfl) fun a1 hF1 => ?_
         refine wl (eN 16 18 (t := 106) (fun b => .pointer (some ⟨b, 0, none⟩)) #[.nilFunc, .int .i64 0] hF1 hM (by kernel_rfl) (fun _ => by kernel_rfl) fun bb14 a1 w hF1 hM => ?_)
         refine wl (sStore (i := 18) (off := 0) (cs' := #[.func (.func 60) #[] #[.pointer (some ⟨bb10, 0, none⟩), .pointer (some ⟨bb5, 0, none⟩), .pointer (some ⟨bb7, 0, none⟩)], .int .i64 4]) hF1 hM (by kernel_rfl) rfl rfl (by kernel_rfl) (by kernel_rfl) rfl (by kernel_rfl) fun w hM => ?_)
         refine wpList_nil ?_
         refine hK72 _ _ ?_
         refine wp_seq_k fun K73 hK73 => ?_
         refine wp_region_lit ?_
         refine sB 1 [(68, .pointer (some ⟨bb14, 0, none⟩))] hF1 (by kernel_rfl) fun a1 hF1 => ?_
         refine wl (eL 69 18 0 (v := .func (.func 60) #[] #[.pointer (some ⟨bb10, 0, none⟩), .pointer (some ⟨bb5, 0, none⟩), .pointer (some ⟨bb7, 0, none⟩)]) hF1 hM (by kernel_rfl) rfl rfl (by kernel_rfl) (by kernel_rfl) fun a1 w hF1 hM => ?_)
         refine wl (sC (f := 60) (args := #[.pointer (some ⟨bb10, 0, none⟩), .pointer (some ⟨bb5, 0, none⟩), .pointer (some ⟨bb7, 0, none⟩)]) hF1 (by kernel_rfl) rfl (by decide) (by kernel_rfl) (fun _ => by kernel_rfl) ?_)
         refine enterK 14 Try.func60 rfl rfl rfl ?_
         intro a2 hF2 QR74 hR74 hNR74
         refine wp_seq_k fun K75 hK75 => ?_
         refine wp_region_lit ?_
         refine sB 1 [(3, .bool false)] hF2 (by kernel_rfl) fun a2 hF2 => ?_
         refine wpList_nil ?_
         refine hK75 _ _ ?_
         refine wp_seq_k fun K76 hK76 => ?_
         have hln := fl_len (fl_p h0)
         have hvi := vi_bd hv
         refine rQ hM (by kernel_rfl) (by kernel_rfl) ?_
         refine eQL 4 14 0 (v := .int .i64 pe) hF2 (by kernel_rfl) rfl rfl (by kernel_rfl) (by kernel_rfl) fun a2 hF2 => ?_
         refine eQL 5 9 0 (v := .pointer (some ⟨bb4, 0, none⟩)) hF2 (by kernel_rfl) rfl rfl (by kernel_rfl) (by kernel_rfl) fun a2 hF2 => ?_
         refine eQ 6 (v0 := .pointer (some ⟨bb4, 0, none⟩)) (v := .pointer (some ⟨bb4, 0, none⟩)) hF2 (by kernel_rfl) (fun _ => by kernel_rfl) rfl fun a2 hF2 => ?_
         refine eQ 7 (v0 := .pointer (some ⟨bb4, 0, none⟩)) (v := .pointer (some ⟨bb4, 0, none⟩)) hF2 (by kernel_rfl) (fun _ => by kernel_rfl) rfl fun a2 hF2 => ?_
         refine eQ 8 (v0 := .pointer (some ⟨bb4, 3, none⟩)) (v := .pointer (some ⟨bb4, 3, none⟩)) hF2 (by kernel_rfl) (fun _ => by kernel_rfl) rfl fun a2 hF2 => ?_
         refine eQL 9 8 3 (v := .slice A3 ls.length cs) hF2 (by kernel_rfl) rfl rfl (by kernel_rfl) (by kernel_rfl) fun a2 hF2 => ?_
         refine eQL 10 11 0 (v := .int .i64 (kk : Int)) hF2 (by kernel_rfl) rfl rfl (by kernel_rfl) (by kernel_rfl) fun a2 hF2 => ?_
         refine eQ2 11 (v := .pointer (some (ea A3 (kk)))) hF2 (by kernel_rfl) (yld_ix (kd := .i64) (e := 3) (len := ls.length) (cap := cs) (i := (kk : Int)) (size := 1) (A := A3) hF2 rfl (by kernel_rfl) (by kernel_rfl) (by kernel_rfl) (by kernel_rfl) (by kernel_rfl) (roK 3 rfl) (by omega) (by omega) (by rw [List.length_map]; omega)) fun a2 hF2 => ?_
         refine eQ2 12 (v := .int .i64 (nt ls kk)) hF2 (by kernel_rfl) (yld_ro1 (A := A3) (j := kk) hF2 rfl (by kernel_rfl) (by kernel_rfl) (roK 3 rfl) (by kernel_rfl) (nt_at (by omega))) fun a2 hF2 => ?_
         refine eQ 13 (v0 := .bool (decide (pe ≤ nt ls kk))) (v := .bool (decide (pe ≤ nt ls kk))) hF2 (by kernel_rfl) (fun _ => by kernel_rfl) rfl fun a2 hF2 => ?_
         refine eQ 3 (v0 := .bool (decide (pe ≤ nt ls kk))) (v := .bool (decide (pe ≤ nt ls kk))) hF2 (by kernel_rfl) (fun _ => by kernel_rfl) rfl fun a2 hF2 => ?_
         refine wpQuiet_nil ?_
         intro w hM
         refine hK76 _ _ ?_
         refine wp_ret ?_
         refine hR74 _ _ ?_
         refine ret_of hF2 hM (.tmp rfl (.nil)) ⟨_, rfl, ?_⟩
         intro a1 hF1
         refine wpList_nil ?_
         refine hK73 _ _ ?_
         by_cases hz8 : pe ≤ nt ls kk
         ·skip
          replace hF1 := hF1.c hF1 (i := 70) (v := .bool true) rfl (bT hz8)
          refine cT hF1 (by kernel_rfl) (by kernel_rfl) ?_
          refine wp_seq_k fun K77 hK77 => ?_
          refine wp_region_lit ?_
          refine sB 1 [(71, .pointer (some ⟨bb14, 1, none⟩))] hF1 (by kernel_rfl) fun a1 hF1 => ?_
          refine wl (eL 72 18 1 (v := .int .i64 4) hF1 hM (by kernel_rfl) rfl rfl (by kernel_rfl) (by kernel_rfl) fun a1 w hF1 hM => ?_)
          refine sB 1 [(14, .int .i64 4)] hF1 (by kernel_rfl) fun a1 hF1 => ?_
          refine wpList_nil ?_
          refine hK77 _ _ ?_
          refine wp_exit ?_
          refine hK38 _ _ ?_
          refine wp_seq_k fun K78 hK78 => ?_
          refine wp_seq_k fun K79 hK79 => ?_
          refine wp_region_lit ?_
          refine sB 1 [(74, .int .i64 4)] hF1 (by kernel_rfl) fun a1 hF1 => ?_
          refine wl (eP 75 (v0 := .bool (decide (4 = 0))) (v := .bool false) hF1 (by kernel_rfl) (fun _ => by kernel_rfl) (bF (by omega)) fun a1 hF1 => ?_)
          refine wpList_nil ?_
          refine hK79 _ _ ?_
          refine cF hF1 (by kernel_rfl) (by kernel_rfl) ?_
          refine wp_skip ?_
          refine hK78 _ _ ?_
          refine wp_seq_k fun K80 hK80 => ?_
          refine wp_region_lit ?_
          refine sB 2 [(88, .int .i64 4), (8, .int .i64 4)] hF1 (by kernel_rfl) fun a1 hF1 => ?_
          refine wpList_nil ?_
          refine hK80 _ _ ?_
          refine wp_ret ?_
          refine hR17 _ _ ?_
          refine ret_of hF1 hM (.tmp rfl (.nil)) ⟨_, rfl, ?_⟩
          intro a hF
          refine sB 1 [(14, .int .i64 4)] hF (by kernel_rfl) fun a hF => ?_
          refine wpList_nil ?_
          refine hK16 _ _ ?_
          refine wp_seq_k fun K81 hK81 => ?_
          refine wp_region_lit ?_
          refine sB 1 [(55, .pointer (some ⟨bb4, 0, none⟩))] hF (by kernel_rfl) fun a hF => ?_
          refine wl (eL 56 8 0 (v := .agg #[.slice A la.length ca, .slice A2 lq.length cq_, .int .i64 t, .slice A3 ls.length cs, .slice A4 lm.length cm]) hF hM (by kernel_rfl) rfl rfl (by kernel_rfl) (by kernel_rfl) fun a w hF hM => ?_)
          refine sB 1 [(57, .int .i64 4)] hF (by kernel_rfl) fun a hF => ?_
          refine wl (sStore (i := 7) (off := 0) (cs' := #[.slice A la.length ca, .slice A2 lq.length cq_, .int .i64 t, .slice A3 ls.length cs, .slice A4 lm.length cm]) hF hM (by kernel_rfl) rfl rfl (by kernel_rfl) (by kernel_rfl) rfl (by kernel_rfl) fun w hM => ?_)
          refine sB 2 [(9, .int .i64 4), (10, .int .i64 0)] hF (by kernel_rfl) fun a hF => ?_
          refine wpList_nil ?_
          refine hK81 _ _ ?_
          refine wp_ret ?_
          refine hR0 _ _ ?_
          refine ret_of hF hM (.cell (i := 7) rfl rfl (v := .agg #[.slice A la.length ca, .slice A2 lq.length cq_, .int .i64 t, .slice A3 ls.length cs, .slice A4 lm.length cm]) (by kernel_rfl) (.tmp rfl (.tmp rfl (.nil)))) ?_
          have e2 := e.symm.trans (show psR la lq ls lm port i1 i3 i4 t = (ls, lm, 4) from by unfold psR; rw [if_neg (show ¬ i3 ≤ 5 by omega)]; have hA : psA la ls port i1 i3 i4 t = (ls, 4) := by { unfold psA; rw [if_neg (show ¬ regI port i1 i3 la < 0 by omega), hkk, Int.toNat_natCast, if_neg hz3]; first | (rw [if_pos (by omega)]; done) | (rw [if_neg (by omega)]; first | (rw [if_pos (by omega)]; done) | (rw [if_neg (by omega)]; first | (rw [if_pos (by omega)]; done) | rw [if_neg (by omega), hpe])) }; rw [hA])
          have eq1 := (Prod.mk.inj e2).1
          have eq2 := (Prod.mk.inj (Prod.mk.inj e2).2).1
          have eq3 := (Prod.mk.inj (Prod.mk.inj e2).2).2
          clear e2 e
          subst eq1 eq2 eq3
          subst e3 e4
          exact ⟨_, _, _, _, rfl, hM.roSame (k := 3) rfl, hM.roSame (k := 4) rfl, hM.bel⟩
         ·skip
          replace hF1 := hF1.c hF1 (i := 70) (v := .bool false) rfl (bF hz8)
          refine cF hF1 (by kernel_rfl) (by kernel_rfl) ?_
          refine wp_skip ?_
          refine hK71 _ _ ?_
          refine wp_region_lit ?_
          refine wl (eP 73 (v0 := .int .i64 (IntKind.i64.wrap (2 + 1))) (v := .int .i64 3) hF1 (by kernel_rfl) (fun _ => by kernel_rfl) (vi (by decide)) fun a1 hF1 => ?_)
          refine sB 1 [(65, .int .i64 3)] hF1 (by kernel_rfl) fun a1 hF1 => ?_
          refine wpList_nil ?_
          refine hK68 _ _ ?_
          refine rounds_k fun K82 hK82 => ?_
          refine wp_seq_k fun K83 hK83 => ?_
          refine wp_region_lit ?_
          refine wl (eP 66 (v0 := .bool (decide (3 < 3))) (v := .bool false) hF1 (by kernel_rfl) (fun _ => by kernel_rfl) (bF (by omega)) fun a1 hF1 => ?_)
          refine wpList_nil ?_
          refine hK83 _ _ ?_
          refine wp_seq_k fun K84 hK84 => ?_
          refine cF hF1 (by kernel_rfl) (by kernel_rfl) ?_
          refine wp_exit ?_
          refine hK38 _ _ ?_
          refine wp_seq_k fun K85 hK85 => ?_
          refine wp_seq_k fun K86 hK86 => ?_
          refine wp_region_lit ?_
          refine sB 1 [(74, .int .i64 0)] hF1 (by kernel_rfl) fun a1 hF1 => ?_
          refine wl (eP 75 (v0 := .bool (decide (0 = 0))) (v := .bool true) hF1 (by kernel_rfl) (fun _ => by kernel_rfl) (bT (by omega)) fun a1 hF1 => ?_)
          refine wpList_nil ?_
          refine hK86 _ _ ?_
          refine cT hF1 (by kernel_rfl) (by kernel_rfl) ?_
          refine rF (by kernel_rfl) (by kernel_rfl) (fun S a w => ∃ AA15 : Option Addr, ∃ cc15 : Nat, Fr 89 [(4, some (.pointer (some ⟨bb5, 0, none⟩))), (8, some (.int .i64 0)), (9, some (.pointer (some ⟨bb7, 0, none⟩))), (12, some (.pointer (some ⟨bb10, 0, none⟩))), (14, some (.int .i64 0)), (76, (cond (S.getD 0 false) (some (.pointer (some ⟨bb4, 0, none⟩))) none)), (77, (cond (S.getD 1 false) (some (.pointer (some ⟨bb4, 0, none⟩))) none)), (78, (cond (S.getD 2 false) (some (.pointer (some ⟨bb4, 0, none⟩))) none)), (79, (cond (S.getD 3 false) (some (.pointer (some ⟨bb4, 0, none⟩))) none)), (80, (cond (S.getD 4 false) (some (.pointer (some ⟨bb4, 3, none⟩))) none)), (81, (cond (S.getD 5 false) (some (.slice A3 ls.length cs)) none)), (82, (cond (S.getD 6 false) (some (.int .i64 (kk : Int))) none)), (83, (cond (S.getD 7 false) (some (.int .i64 pe)) none)), (84, (cond (S.getD 8 false) (some (.slice AA15 ls.length cc15)) none)), (85, (cond (S.getD 9 false) (some (.pointer (some ⟨bb4, 0, none⟩))) none)), (86, (cond (S.getD 10 false) (some (.pointer (some ⟨bb4, 0, none⟩))) none)), (87, (cond (S.getD 11 false) (some (.pointer (some ⟨bb4, 3, none⟩))) none))] a ∧ Mem w0.heap.size w0 [(1, some (.ro A (flatR la))), (2, some (.ro A2 (flatR lq))), (3, some (.ro A3 (ls.map (Value.int .i64)))), (4, some (.ro A4 (flatR lm))), (5, some (.row bb1 27 #[.slice A la.length ca, .slice A2 lq.length cq_, .int .i64 now, .slice A3 ls.length cs, .slice A4 lm.length cm])), (6, some (.row bb2 39 #[.int .i64 i1, .int .i64 i2, .int .i64 i3, .int .i64 i4, .int .i64 i5])), (7, some (.row bb3 27 #[.slice none 0 0, .slice none 0 0, .int .i64 0, .slice none 0 0, .slice none 0 0])), (8, (cond (S.getD 12 false) (some (.row bb4 85 #[.slice A la.length ca, .slice A2 lq.length cq_, .int .i64 t, .slice AA15 ls.length cc15, .slice A4 lm.length cm])) (some (.row bb4 85 #[.slice A la.length ca, .slice A2 lq.length cq_, .int .i64 t, .slice A3 ls.length cs, .slice A4 lm.length cm])))), (9, some (.row bb5 103 #[.pointer (some ⟨bb4, 0, none⟩)])), (11, some (.row bb7 3 #[.int .i64 (kk : Int)])), (14, some (.row bb10 3 #[.int .i64 pe])), (19, (cond (S.getD 8 false) (some (.own (.slice AA15 ls.length cc15) 3 1 ls.length (((ls).set kk pe).map (Value.int .i64)))) none))] w) ?_ ?_ ?_
          ·exact ⟨none, 0, ((((((((((((((((((Fr.nil hF1).co hF1 (i := 87) (by kernel_rfl)).co hF1 (i := 86) (by kernel_rfl)).co hF1 (i := 85) (by kernel_rfl)).co hF1 (i := 84) (by kernel_rfl)).co hF1 (i := 83) (by kernel_rfl)).co hF1 (i := 82) (by kernel_rfl)).co hF1 (i := 81) (by kernel_rfl)).co hF1 (i := 80) (by kernel_rfl)).co hF1 (i := 79) (by kernel_rfl)).co hF1 (i := 78) (by kernel_rfl)).co hF1 (i := 77) (by kernel_rfl)).co hF1 (i := 76) (by kernel_rfl)).co hF1 (i := 14) (by kernel_rfl)).co hF1 (i := 12) (by kernel_rfl)).co hF1 (i := 9) (by kernel_rfl)).co hF1 (i := 8) (by kernel_rfl)).co hF1 (i := 4) (by kernel_rfl)), hM.drew.sub ((((((((((((Sub.nil.co (k := 19) (by kernel_rfl)).co (k := 14) (by kernel_rfl)).co (k := 11) (by kernel_rfl)).co (k := 9) (by kernel_rfl)).co (k := 8) (by kernel_rfl)).co (k := 7) (by kernel_rfl)).co (k := 6) (by kernel_rfl)).co (k := 5) (by kernel_rfl)).co (k := 4) (by kernel_rfl)).co (k := 3) (by kernel_rfl)).co (k := 2) (by kernel_rfl)).co (k := 1) (by kernel_rfl))⟩
          ·refine stC ?_ (stC ?_ (stC ?_ (stC ?_ (stC ?_ (stC ?_ (stC ?_ (stC ?_ (stC ?_ (stC ?_ (stC ?_ (stC ?_ (stC ?_ (trivial)))))))))))))
           ·intro s0 s1 s2 s3 s4 s5 s6 s7 s8 s9 s10 s11 s12 hc hi hp a w hS
            obtain rfl : s0 = false := hi
            obtain rfl : s12 = false := hc.f 12 0 (by kernel_rfl) rfl
            obtain ⟨AA15, cc15, hF1, hM⟩ := hS
            refine eL 76 9 0 (v := .pointer (some ⟨bb4, 0, none⟩)) hF1 hM (by kernel_rfl) rfl rfl (by kernel_rfl) (by kernel_rfl) fun a1 w hF1 hM => ?_
            exact ⟨AA15, cc15, ((hF1.repl 5 (by kernel_rfl)).cast (by kernel_rfl)), (hM.cast (by kernel_rfl))⟩
           ·intro s0 s1 s2 s3 s4 s5 s6 s7 s8 s9 s10 s11 s12 hc hi hp a w hS
            obtain rfl : s1 = false := hi
            obtain rfl : s12 = false := hc.f 12 1 (by kernel_rfl) rfl
            obtain ⟨AA15, cc15, hF1, hM⟩ := hS
            refine eL 77 9 0 (v := .pointer (some ⟨bb4, 0, none⟩)) hF1 hM (by kernel_rfl) rfl rfl (by kernel_rfl) (by kernel_rfl) fun a1 w hF1 hM => ?_
            exact ⟨AA15, cc15, ((hF1.repl 6 (by kernel_rfl)).cast (by kernel_rfl)), (hM.cast (by kernel_rfl))⟩
           ·intro s0 s1 s2 s3 s4 s5 s6 s7 s8 s9 s10 s11 s12 hc hi hp a w hS
            obtain rfl : s2 = false := hi
            obtain rfl : s1 = true := hp 1 (by kernel_rfl)
            obtain rfl : s12 = false := hc.f 12 2 (by kernel_rfl) rfl
            obtain ⟨AA15, cc15, hF1, hM⟩ := hS
            refine eP 78 (v0 := .pointer (some ⟨bb4, 0, none⟩)) (v := .pointer (some ⟨bb4, 0, none⟩)) hF1 (by kernel_rfl) (fun _ => by kernel_rfl) rfl fun a1 hF1 => ?_
            exact ⟨AA15, cc15, ((hF1.repl 7 (by kernel_rfl)).cast (by kernel_rfl)), (hM.cast (by kernel_rfl))⟩
           ·intro s0 s1 s2 s3 s4 s5 s6 s7 s8 s9 s10 s11 s12 hc hi hp a w hS
            obtain rfl : s3 = false := hi
            obtain rfl : s2 = true := hp 2 (by kernel_rfl)
            obtain rfl : s12 = false := hc.f 12 3 (by kernel_rfl) rfl
            obtain ⟨AA15, cc15, hF1, hM⟩ := hS
            refine eP 79 (v0 := .pointer (some ⟨bb4, 0, none⟩)) (v := .pointer (some ⟨bb4, 0, none⟩)) hF1 (by kernel_rfl) (fun _ => by kernel_rfl) rfl fun a1 hF1 => ?_
            exact ⟨AA15, cc15, ((hF1.repl 8 (by kernel_rfl)).cast (by kernel_rfl)), (hM.cast (by kernel_rfl))⟩
           ·intro s0 s1 s2 s3 s4 s5 s6 s7 s8 s9 s10 s11 s12 hc hi hp a w hS
            obtain rfl : s4 = false := hi
            obtain rfl : s3 = true := hp 3 (by kernel_rfl)
            obtain rfl : s12 = false := hc.f 12 4 (by kernel_rfl) rfl
            obtain ⟨AA15, cc15, hF1, hM⟩ := hS
            refine eP 80 (v0 := .pointer (some ⟨bb4, 3, none⟩)) (v := .pointer (some ⟨bb4, 3, none⟩)) hF1 (by kernel_rfl) (fun _ => by kernel_rfl) rfl fun a1 hF1 => ?_
            exact ⟨AA15, cc15, ((hF1.repl 9 (by kernel_rfl)).cast (by kernel_rfl)), (hM.cast (by kernel_rfl))⟩
           ·intro s0 s1 s2 s3 s4 s5 s6 s7 s8 s9 s10 s11 s12 hc hi hp a w hS
            obtain rfl : s5 = false := hi
            obtain rfl : s4 = true := hp 4 (by kernel_rfl)
            obtain rfl : s12 = false := hc.f 12 5 (by kernel_rfl) rfl
            obtain ⟨AA15, cc15, hF1, hM⟩ := hS
            refine eL 81 8 3 (v := .slice A3 ls.length cs) hF1 hM (by kernel_rfl) rfl rfl (by kernel_rfl) (by kernel_rfl) fun a1 w hF1 hM => ?_
            exact ⟨AA15, cc15, ((hF1.repl 10 (by kernel_rfl)).cast (by kernel_rfl)), (hM.cast (by kernel_rfl))⟩
           ·intro s0 s1 s2 s3 s4 s5 s6 s7 s8 s9 s10 s11 s12 hc hi hp a w hS
            obtain rfl : s6 = false := hi
            obtain ⟨AA15, cc15, hF1, hM⟩ := hS
            refine eL 82 11 0 (v := .int .i64 (kk : Int)) hF1 hM (by kernel_rfl) rfl rfl (by kernel_rfl) (by kernel_rfl) fun a1 w hF1 hM => ?_
            exact ⟨AA15, cc15, ((hF1.repl 11 (by kernel_rfl)).cast (by kernel_rfl)), (hM.cast (by kernel_rfl))⟩
           ·intro s0 s1 s2 s3 s4 s5 s6 s7 s8 s9 s10 s11 s12 hc hi hp a w hS
            obtain rfl : s7 = false := hi
            obtain ⟨AA15, cc15, hF1, hM⟩ := hS
            refine eL 83 14 0 (v := .int .i64 pe) hF1 hM (by kernel_rfl) rfl rfl (by kernel_rfl) (by kernel_rfl) fun a1 w hF1 hM => ?_
            exact ⟨AA15, cc15, ((hF1.repl 12 (by kernel_rfl)).cast (by kernel_rfl)), (hM.cast (by kernel_rfl))⟩
           ·intro s0 s1 s2 s3 s4 s5 s6 s7 s8 s9 s10 s11 s12 hc hi hp a w hS
            obtain rfl : s8 = false := hi
            obtain rfl : s7 = true := hp 7 (by kernel_rfl)
            obtain rfl : s6 = true := hp 6 (by kernel_rfl)
            obtain rfl : s5 = true := hp 5 (by kernel_rfl)
            obtain rfl : s12 = false := hc.f 12 8 (by kernel_rfl) rfl
            obtain ⟨AA15, cc15, hF1, hM⟩ := hS
            refine sOwn 19 (f := 61) (args := #[.slice A3 ls.length cs, .int .i64 (kk : Int), .int .i64 pe]) (mk := (fun v => v)) (e := 3) (size := 1) (m := ls.length) (xs := (((ls).set kk pe).map (Value.int .i64))) hF1 hM (by kernel_rfl) rfl (by decide) (by kernel_rfl) (fun _ => by kernel_rfl) (replI_w A3 ls cs kk pe w (hM.ok 3 _ rfl) (by omega) (by omega)) fun AA15 cc15 a1 w hF1 hM => ?_
            exact ⟨AA15, cc15, ((hF1.repl 13 (by kernel_rfl)).cast (by kernel_rfl)), ((hM.repl 11 (by kernel_rfl)).cast (by kernel_rfl))⟩
           ·intro s0 s1 s2 s3 s4 s5 s6 s7 s8 s9 s10 s11 s12 hc hi hp a w hS
            obtain rfl : s9 = false := hi
            obtain rfl : s0 = true := hp 0 (by kernel_rfl)
            obtain rfl : s10 = false := hc.f 10 9 (by kernel_rfl) rfl
            obtain rfl : s11 = false := hc.f 11 10 (by kernel_rfl) rfl
            obtain rfl : s12 = false := hc.f 12 11 (by kernel_rfl) rfl
            obtain ⟨AA15, cc15, hF1, hM⟩ := hS
            refine eP 85 (v0 := .pointer (some ⟨bb4, 0, none⟩)) (v := .pointer (some ⟨bb4, 0, none⟩)) hF1 (by kernel_rfl) (fun _ => by kernel_rfl) rfl fun a1 hF1 => ?_
            exact ⟨AA15, cc15, ((hF1.repl 14 (by kernel_rfl)).cast (by kernel_rfl)), (hM.cast (by kernel_rfl))⟩
           ·intro s0 s1 s2 s3 s4 s5 s6 s7 s8 s9 s10 s11 s12 hc hi hp a w hS
            obtain rfl : s10 = false := hi
            obtain rfl : s9 = true := hp 9 (by kernel_rfl)
            obtain rfl : s11 = false := hc.f 11 10 (by kernel_rfl) rfl
            obtain rfl : s12 = false := hc.f 12 11 (by kernel_rfl) rfl
            obtain ⟨AA15, cc15, hF1, hM⟩ := hS
            refine eP 86 (v0 := .pointer (some ⟨bb4, 0, none⟩)) (v := .pointer (some ⟨bb4, 0, none⟩)) hF1 (by kernel_rfl) (fun _ => by kernel_rfl) rfl fun a1 hF1 => ?_
            exact ⟨AA15, cc15, ((hF1.repl 15 (by kernel_rfl)).cast (by kernel_rfl)), (hM.cast (by kernel_rfl))⟩
           ·intro s0 s1 s2 s3 s4 s5 s6 s7 s8 s9 s10 s11 s12 hc hi hp a w hS
            obtain rfl : s11 = false := hi
            obtain rfl : s10 = true := hp 10 (by kernel_rfl)
            obtain rfl : s12 = false := hc.f 12 11 (by kernel_rfl) rfl
            obtain ⟨AA15, cc15, hF1, hM⟩ := hS
            refine eP 87 (v0 := .pointer (some ⟨bb4, 3, none⟩)) (v := .pointer (some ⟨bb4, 3, none⟩)) hF1 (by kernel_rfl) (fun _ => by kernel_rfl) rfl fun a1 hF1 => ?_
            exact ⟨AA15, cc15, ((hF1.repl 16 (by kernel_rfl)).cast (by kernel_rfl)), (hM.cast (by kernel_rfl))⟩
           ·intro s0 s1 s2 s3 s4 s5 s6 s7 s8 s9 s10 s11 s12 hc hi hp a w hS
            obtain rfl : s12 = false := hi
            obtain rfl : s11 = true := hp 11 (by kernel_rfl)
            obtain rfl : s8 = true := hp 8 (by kernel_rfl)
            obtain ⟨AA15, cc15, hF1, hM⟩ := hS
            refine sStore (i := 8) (off := 3) (cs' := #[.slice A la.length ca, .slice A2 lq.length cq_, .int .i64 t, .slice AA15 ls.length cc15, .slice A4 lm.length cm]) hF1 hM (by kernel_rfl) rfl rfl (by kernel_rfl) (by kernel_rfl) rfl (by kernel_rfl) fun w hM => ?_
            exact ⟨AA15, cc15, (hF1.cast (by kernel_rfl)), ((hM.repl 7 (by kernel_rfl)).cast (by kernel_rfl))⟩
          ·intro a1 w hS
           obtain ⟨AA15, cc15, hF1, hM⟩ := hS
           replace hF1 : Fr 89 [(4, some (.pointer (some ⟨bb5, 0, none⟩))), (8, some (.int .i64 0)), (9, some (.pointer (some ⟨bb7, 0, none⟩))), (12, some (.pointer (some ⟨bb10, 0, none⟩))), (14, some (.int .i64 0)), (76, some (.pointer (some ⟨bb4, 0, none⟩))), (77, some (.pointer (some ⟨bb4, 0, none⟩))), (78, some (.pointer (some ⟨bb4, 0, none⟩))), (79, some (.pointer (some ⟨bb4, 0, none⟩))), (80, some (.pointer (some ⟨bb4, 3, none⟩))), (81, some (.slice A3 ls.length cs)), (82, some (.int .i64 (kk : Int))), (83, some (.int .i64 pe)), (84, some (.slice AA15 ls.length cc15)), (85, some (.pointer (some ⟨bb4, 0, none⟩))), (86, some (.pointer (some ⟨bb4, 0, none⟩))), (87, some (.pointer (some ⟨bb4, 3, none⟩)))] a1 := hF1.cast (by kernel_rfl)
           replace hM : Mem w0.heap.size w0 [(1, some (.ro A (flatR la))), (2, some (.ro A2 (flatR lq))), (3, some (.ro A3 (ls.map (Value.int .i64)))), (4, some (.ro A4 (flatR lm))), (5, some (.row bb1 27 #[.slice A la.length ca, .slice A2 lq.length cq_, .int .i64 now, .slice A3 ls.length cs, .slice A4 lm.length cm])), (6, some (.row bb2 39 #[.int .i64 i1, .int .i64 i2, .int .i64 i3, .int .i64 i4, .int .i64 i5])), (7, some (.row bb3 27 #[.slice none 0 0, .slice none 0 0, .int .i64 0, .slice none 0 0, .slice none 0 0])), (8, some (.row bb4 85 #[.slice A la.length ca, .slice A2 lq.length cq_, .int .i64 t, .slice AA15 ls.length cc15, .slice A4 lm.length cm])), (9, some (.row bb5 103 #[.pointer (some ⟨bb4, 0, none⟩)])), (11, some (.row bb7 3 #[.int .i64 (kk : Int)])), (14, some (.row bb10 3 #[.int .i64 pe])), (19, some (.own (.slice AA15 ls.length cc15) 3 1 ls.length (((ls).set kk pe).map (Value.int .i64))))] w := hM.cast (by kernel_rfl)
           refine hK85 _ _ ?_
           refine wp_seq_k fun K87 hK87 => ?_
           refine wp_region_lit ?_
           refine sB 2 [(88, .int .i64 0), (8, .int .i64 0)] hF1 (by kernel_rfl) fun a1 hF1 => ?_
           refine wpList_nil ?_
           refine hK87 _ _ ?_
           refine wp_ret ?_
           refine hR17 _ _ ?_
           refine ret_of hF1 hM (.tmp rfl (.nil)) ⟨_, rfl, ?_⟩
           intro a hF
           refine sB 1 [(14, .int .i64 0)] hF (by kernel_rfl) fun a hF => ?_
           refine wpList_nil ?_
           refine hK16 _ _ ?_
           refine wp_seq_k fun K88 hK88 => ?_
           refine wp_region_lit ?_
           refine sB 1 [(55, .pointer (some ⟨bb4, 0, none⟩))] hF (by kernel_rfl) fun a hF => ?_
           refine wl (eL 56 8 0 (v := .agg #[.slice A la.length ca, .slice A2 lq.length cq_, .int .i64 t, .slice AA15 ls.length cc15, .slice A4 lm.length cm]) hF hM (by kernel_rfl) rfl rfl (by kernel_rfl) (by kernel_rfl) fun a w hF hM => ?_)
           refine sB 1 [(57, .int .i64 0)] hF (by kernel_rfl) fun a hF => ?_
           refine wl (sStore (i := 7) (off := 0) (cs' := #[.slice A la.length ca, .slice A2 lq.length cq_, .int .i64 t, .slice AA15 ls.length cc15, .slice A4 lm.length cm]) hF hM (by kernel_rfl) rfl rfl (by kernel_rfl) (by kernel_rfl) rfl (by kernel_rfl) fun w hM => ?_)
           refine sB 2 [(9, .int .i64 0), (10, .int .i64 0)] hF (by kernel_rfl) fun a hF => ?_
           refine wpList_nil ?_
           refine hK88 _ _ ?_
           refine wp_ret ?_
           refine hR0 _ _ ?_
           refine ret_of hF hM (.cell (i := 7) rfl rfl (v := .agg #[.slice A la.length ca, .slice A2 lq.length cq_, .int .i64 t, .slice AA15 ls.length cc15, .slice A4 lm.length cm]) (by kernel_rfl) (.tmp rfl (.tmp rfl (.nil)))) ?_
           have e2 := e.symm.trans (show psR la lq ls lm port i1 i3 i4 t = ((ls).set kk pe, lm, 0) from by unfold psR; rw [if_neg (show ¬ i3 ≤ 5 by omega)]; have hA : psA la ls port i1 i3 i4 t = ((ls).set kk pe, 0) := by { unfold psA; rw [if_neg (show ¬ regI port i1 i3 la < 0 by omega), hkk, Int.toNat_natCast, if_neg hz3]; first | (rw [if_pos (by omega)]; done) | (rw [if_neg (by omega)]; first | (rw [if_pos (by omega)]; done) | (rw [if_neg (by omega)]; first | (rw [if_pos (by omega)]; done) | rw [if_neg (by omega), hpe])) }; rw [hA])
           have eq1 := (Prod.mk.inj e2).1
           have eq2 := (Prod.mk.inj (Prod.mk.inj e2).2).1
           have eq3 := (Prod.mk.inj (Prod.mk.inj e2).2).2
           clear e2 e
           subst eq1 eq2 eq3
           subst e3 e4
           exact ⟨_, _, _, _, rfl, hM.ownNew (k := 19) rfl, hM.roSame (k := 4) rfl, hM.bel⟩
      ·skip
       replace hF1 := hF1.c hF1 (i := 70) (v := .bool true) rfl (nF hz5)
       refine cT hF1 (by kernel_rfl) (by kernel_rfl) ?_
       refine wp_seq_k fun K89 hK89 => ?_
       refine wp_region_lit ?_
       refine sB 1 [(71, .pointer (some ⟨bb12, 1, none⟩))] hF1 (by kernel_rfl) fun a1 hF1 => ?_
       refine wl (eL 72 16 1 (v := .int .i64 2) hF1 hM (by kernel_rfl) rfl rfl (by kernel_rfl) (by kernel_rfl) fun a1 w hF1 hM => ?_)
       refine sB 1 [(14, .int .i64 2)] hF1 (by kernel_rfl) fun a1 hF1 => ?_
       refine wpList_nil ?_
       refine hK89 _ _ ?_
       refine wp_exit ?_
       refine hK38 _ _ ?_
       refine wp_seq_k fun K90 hK90 => ?_
       refine wp_seq_k fun K91 hK91 => ?_
       refine wp_region_lit ?_
       refine sB 1 [(74, .int .i64 2)] hF1 (by kernel_rfl) fun a1 hF1 => ?_
       refine wl (eP 75 (v0 := .bool (decide (2 = 0))) (v := .bool false) hF1 (by kernel_rfl) (fun _ => by kernel_rfl) (bF (by omega)) fun a1 hF1 => ?_)
       refine wpList_nil ?_
       refine hK91 _ _ ?_
       refine cF hF1 (by kernel_rfl) (by kernel_rfl) ?_
       refine wp_skip ?_
       refine hK90 _ _ ?_
       refine wp_seq_k fun K92 hK92 => ?_
       refine wp_region_lit ?_
       refine sB 2 [(88, .int .i64 2), (8, .int .i64 2)] hF1 (by kernel_rfl) fun a1 hF1 => ?_
       refine wpList_nil ?_
       refine hK92 _ _ ?_
       refine wp_ret ?_
       refine hR17 _ _ ?_
       refine ret_of hF1 hM (.tmp rfl (.nil)) ⟨_, rfl, ?_⟩
       intro a hF
       refine sB 1 [(14, .int .i64 2)] hF (by kernel_rfl) fun a hF => ?_
       refine wpList_nil ?_
       refine hK16 _ _ ?_
       refine wp_seq_k fun K93 hK93 => ?_
       refine wp_region_lit ?_
       refine sB 1 [(55, .pointer (some ⟨bb4, 0, none⟩))] hF (by kernel_rfl) fun a hF => ?_
       refine wl (eL 56 8 0 (v := .agg #[.slice A la.length ca, .slice A2 lq.length cq_, .int .i64 t, .slice A3 ls.length cs, .slice A4 lm.length cm]) hF hM (by kernel_rfl) rfl rfl (by kernel_rfl) (by kernel_rfl) fun a w hF hM => ?_)
       refine sB 1 [(57, .int .i64 2)] hF (by kernel_rfl) fun a hF => ?_
       refine wl (sStore (i := 7) (off := 0) (cs' := #[.slice A la.length ca, .slice A2 lq.length cq_, .int .i64 t, .slice A3 ls.length cs, .slice A4 lm.length cm]) hF hM (by kernel_rfl) rfl rfl (by kernel_rfl) (by kernel_rfl) rfl (by kernel_rfl) fun w hM => ?_)
       refine sB 2 [(9, .int .i64 2), (10, .int .i64 0)] hF (by kernel_rfl) fun a hF => ?_
       refine wpList_nil ?_
       refine hK93 _ _ ?_
       refine wp_ret ?_
       refine hR0 _ _ ?_
       refine ret_of hF hM (.cell (i := 7) rfl rfl (v := .agg #[.slice A la.length ca, .slice A2 lq.length cq_, .int .i64 t, .slice A3 ls.length cs, .slice A4 lm.length cm]) (by kernel_rfl) (.tmp rfl (.tmp rfl (.nil)))) ?_
       have e2 := e.symm.trans (show psR la lq ls lm port i1 i3 i4 t = (ls, lm, 2) from by unfold psR; rw [if_neg (show ¬ i3 ≤ 5 by omega)]; have hA : psA la ls port i1 i3 i4 t = (ls, 2) := by { unfold psA; rw [if_neg (show ¬ regI port i1 i3 la < 0 by omega), hkk, Int.toNat_natCast, if_neg hz3]; first | (rw [if_pos (by omega)]; done) | (rw [if_neg (by omega)]; first | (rw [if_pos (by omega)]; done) | (rw [if_neg (by omega)]; first | (rw [if_pos (by omega)]; done) | rw [if_neg (by omega), hpe])) }; rw [hA])
       have eq1 := (Prod.mk.inj e2).1
       have eq2 := (Prod.mk.inj (Prod.mk.inj e2).2).1
       have eq3 := (Prod.mk.inj (Prod.mk.inj e2).2).2
       clear e2 e
       subst eq1 eq2 eq3
       subst e3 e4
       exact ⟨_, _, _, _, rfl, hM.roSame (k := 3) rfl, hM.roSame (k := 4) rfl, hM.bel⟩
 ·skip
  refine wp_region_lit ?_
  refine sB 1 [(41, .pointer (some ⟨bb2, 2, none⟩))] hF (by kernel_rfl) fun a hF => ?_
  refine wl (eL 42 6 2 (v := .int .i64 i3) hF hM (by kernel_rfl) rfl rfl (by kernel_rfl) (by kernel_rfl) fun a w hF hM => ?_)
  refine wl (eP 43 (v0 := .bool (decide (i3 = 7))) (v := .bool false) hF (by kernel_rfl) (fun _ => by kernel_rfl) (bF hz1) fun a hF => ?_)
  refine sB 2 [(44, .bool false), (45, .pointer (some ⟨bb2, 2, none⟩))] hF (by kernel_rfl) fun a hF => ?_
  refine wl (eL 46 6 2 (v := .int .i64 i3) hF hM (by kernel_rfl) rfl rfl (by kernel_rfl) (by kernel_rfl) fun a w hF hM => ?_)
  refine sB 2 [(47, .bool (decide (i3 = 6))), (48, .bool (decide (i3 = 6)))] hF (by kernel_rfl) fun a hF => ?_
  refine wpList_nil ?_
  refine hK15 _ _ ?_
  by_cases hz9 : i3 = 6
  ·skip
   replace hF := hF.c hF (i := 47) (v := .bool true) rfl (bT hz9)
   replace hF := hF.c hF (i := 48) (v := .bool true) rfl (bT hz9)
   refine cT hF (by kernel_rfl) (by kernel_rfl) ?_
   refine wp_region_lit ?_
   refine sB 2 [(49, .func (.func 38) #[.pointer (some ⟨bb4, 0, none⟩)] #[]), (13, .func (.func 38) #[.pointer (some ⟨bb4, 0, none⟩)] #[])] hF (by kernel_rfl) fun a hF => ?_
   refine wpList_nil ?_
   refine hK14 _ _ ?_
   refine wp_seq_k fun K94 hK94 => ?_
   refine wp_region_lit ?_
   refine sB 2 [(50, .func (.func 38) #[.pointer (some ⟨bb4, 0, none⟩)] #[]), (51, .int .i64 port)] hF (by kernel_rfl) fun a hF => ?_
   refine wl (eL 52 6 0 (v := .agg #[.int .i64 i1, .int .i64 i2, .int .i64 i3, .int .i64 i4, .int .i64 i5]) hF hM (by kernel_rfl) rfl rfl (by kernel_rfl) (by kernel_rfl) fun a w hF hM => ?_)
   refine sB 1 [(53, .int .i64 t)] hF (by kernel_rfl) fun a hF => ?_
   refine wl (sC (f := 38) (args := #[.pointer (some ⟨bb4, 0, none⟩), .int .i64 port, .agg #[.int .i64 i1, .int .i64 i2, .int .i64 i3, .int .i64 i4, .int .i64 i5], .int .i64 t]) hF (by kernel_rfl) rfl (by decide) (by kernel_rfl) (fun _ => by kernel_rfl) ?_)
   refine enterK 89 Try.func38 rfl rfl rfl ?_
   intro a1 hF1 QR95 hR95 hNR95
   refine wp_seq_k fun K96 hK96 => ?_
   refine wp_region_lit ?_
   refine wl (eN 4 20 (t := 103) (fun b => .pointer (some ⟨b, 0, none⟩)) #[.pointer (some ⟨bb4, 0, none⟩)] hF1 hM (by kernel_rfl) (fun _ => by kernel_rfl) fun bb16 a1 w hF1 hM => ?_)
   refine wl (eN 6 21 (t := 39) (fun b => .pointer (some ⟨b, 0, none⟩)) #[.int .i64 i1, .int .i64 i2, .int .i64 i3, .int .i64 i4, .int .i64 i5] hF1 hM (by kernel_rfl) (fun _ => by kernel_rfl) fun bb17 a1 w hF1 hM => ?_)
   refine sB 1 [(8, .int .i64 0)] hF1 (by kernel_rfl) fun a1 hF1 => ?_
   refine wpList_nil ?_
   refine hK96 _ _ ?_
   refine wp_scope_straight ?_
   refine wp_seq_k fun K97 hK97 => ?_
   have hln := fl_len (fl_p h0)
   have hvi := vi_bd hv
   refine rF (by kernel_rfl) (by kernel_rfl) (fun S a w => ∃ bb18 : Nat, Fr 89 [(1, some (.int .i64 port)), (3, some (.int .i64 t)), (4, some (.pointer (some ⟨bb16, 0, none⟩))), (6, some (.pointer (some ⟨bb17, 0, none⟩))), (8, some (.int .i64 0)), (9, (cond (S.getD 6 false) (some (.pointer (some ⟨bb18, 0, none⟩))) none)), (17, (cond (S.getD 0 false) (some (.pointer (some ⟨bb4, 0, none⟩))) none)), (18, (cond (S.getD 1 false) (some (.pointer (some ⟨bb4, 0, none⟩))) none)), (19, (cond (S.getD 2 false) (some (.agg #[.slice A la.length ca, .slice A2 lq.length cq_, .int .i64 t, .slice A3 ls.length cs, .slice A4 lm.length cm])) none)), (20, (cond (S.getD 3 false) (some (.int .i64 port)) none)), (21, (cond (S.getD 4 false) (some (.agg #[.int .i64 i1, .int .i64 i2, .int .i64 i3, .int .i64 i4, .int .i64 i5])) none)), (22, (cond (S.getD 5 false) (some (.int .i64 (regI port i1 i3 la))) none))] a ∧ Mem w0.heap.size w0 [(1, some (.ro A (flatR la))), (2, some (.ro A2 (flatR lq))), (3, some (.ro A3 (ls.map (Value.int .i64)))), (4, some (.ro A4 (flatR lm))), (5, some (.row bb1 27 #[.slice A la.length ca, .slice A2 lq.length cq_, .int .i64 now, .slice A3 ls.length cs, .slice A4 lm.length cm])), (6, some (.row bb2 39 #[.int .i64 i1, .int .i64 i2, .int .i64 i3, .int .i64 i4, .int .i64 i5])), (7, some (.row bb3 27 #[.slice none 0 0, .slice none 0 0, .int .i64 0, .slice none 0 0, .slice none 0 0])), (8, some (.row bb4 85 #[.slice A la.length ca, .slice A2 lq.length cq_, .int .i64 t, .slice A3 ls.length cs, .slice A4 lm.length cm])), (20, some (.row bb16 103 #[.pointer (some ⟨bb4, 0, none⟩)])), (21, some (.row bb17 39 #[.int .i64 i1, .int .i64 i2, .int .i64 i3, .int .i64 i4, .int .i64 i5])), (22, (cond (S.getD 7 false) (some (.row bb18 3 #[.int .i64 (regI port i1 i3 la)])) (cond (S.getD 6 false) (some (.row bb18 3 #[.int .i64 0])) none)))] w) ?_ ?_ ?_
   ·exact ⟨0, (((((((((((((Fr.nil hF1).co hF1 (i := 22) (by kernel_rfl)).co hF1 (i := 21) (by kernel_rfl)).co hF1 (i := 20) (by kernel_rfl)).co hF1 (i := 19) (by kernel_rfl)).co hF1 (i := 18) (by kernel_rfl)).co hF1 (i := 17) (by kernel_rfl)).co hF1 (i := 9) (by kernel_rfl)).co hF1 (i := 8) (by kernel_rfl)).co hF1 (i := 6) (by kernel_rfl)).co hF1 (i := 4) (by kernel_rfl)).co hF1 (i := 3) (by kernel_rfl)).co hF1 (i := 1) (by kernel_rfl)), hM.drew.sub (((((((((((Sub.nil.co (k := 22) (by kernel_rfl)).co (k := 21) (by kernel_rfl)).co (k := 20) (by kernel_rfl)).co (k := 8) (by kernel_rfl)).co (k := 7) (by kernel_rfl)).co (k := 6) (by kernel_rfl)).co (k := 5) (by kernel_rfl)).co (k := 4) (by kernel_rfl)).co (k := 3) (by kernel_rfl)).co (k := 2) (by kernel_rfl)).co (k := 1) (by kernel_rfl))⟩
   ·refine stC ?_ (stC ?_ (stC ?_ (stC ?_ (stC ?_ (stC ?_ (stC ?_ (stC ?_ (trivial))))))))
    ·intro s0 s1 s2 s3 s4 s5 s6 s7 hc hi hp a w hS
     obtain rfl : s0 = false := hi
     obtain ⟨bb18, hF1, hM⟩ := hS
     refine eL 17 20 0 (v := .pointer (some ⟨bb4, 0, none⟩)) hF1 hM (by kernel_rfl) rfl rfl (by kernel_rfl) (by kernel_rfl) fun a1 w hF1 hM => ?_
     exact ⟨bb18, ((hF1.repl 6 (by kernel_rfl)).cast (by kernel_rfl)), (hM.cast (by kernel_rfl))⟩
    ·intro s0 s1 s2 s3 s4 s5 s6 s7 hc hi hp a w hS
     obtain rfl : s1 = false := hi
     obtain rfl : s0 = true := hp 0 (by kernel_rfl)
     obtain ⟨bb18, hF1, hM⟩ := hS
     refine eP 18 (v0 := .pointer (some ⟨bb4, 0, none⟩)) (v := .pointer (some ⟨bb4, 0, none⟩)) hF1 (by kernel_rfl) (fun _ => by kernel_rfl) rfl fun a1 hF1 => ?_
     exact ⟨bb18, ((hF1.repl 7 (by kernel_rfl)).cast (by kernel_rfl)), (hM.cast (by kernel_rfl))⟩
    ·intro s0 s1 s2 s3 s4 s5 s6 s7 hc hi hp a w hS
     obtain rfl : s2 = false := hi
     obtain rfl : s1 = true := hp 1 (by kernel_rfl)
     obtain ⟨bb18, hF1, hM⟩ := hS
     refine eL 19 8 0 (v := .agg #[.slice A la.length ca, .slice A2 lq.length cq_, .int .i64 t, .slice A3 ls.length cs, .slice A4 lm.length cm]) hF1 hM (by kernel_rfl) rfl rfl (by kernel_rfl) (by kernel_rfl) fun a1 w hF1 hM => ?_
     exact ⟨bb18, ((hF1.repl 8 (by kernel_rfl)).cast (by kernel_rfl)), (hM.cast (by kernel_rfl))⟩
    ·intro s0 s1 s2 s3 s4 s5 s6 s7 hc hi hp a w hS
     obtain rfl : s3 = false := hi
     obtain ⟨bb18, hF1, hM⟩ := hS
     refine eP 20 (v0 := .int .i64 port) (v := .int .i64 port) hF1 (by kernel_rfl) (fun _ => by kernel_rfl) rfl fun a1 hF1 => ?_
     exact ⟨bb18, ((hF1.repl 9 (by kernel_rfl)).cast (by kernel_rfl)), (hM.cast (by kernel_rfl))⟩
    ·intro s0 s1 s2 s3 s4 s5 s6 s7 hc hi hp a w hS
     obtain rfl : s4 = false := hi
     obtain ⟨bb18, hF1, hM⟩ := hS
     refine eL 21 21 0 (v := .agg #[.int .i64 i1, .int .i64 i2, .int .i64 i3, .int .i64 i4, .int .i64 i5]) hF1 hM (by kernel_rfl) rfl rfl (by kernel_rfl) (by kernel_rfl) fun a1 w hF1 hM => ?_
     exact ⟨bb18, ((hF1.repl 10 (by kernel_rfl)).cast (by kernel_rfl)), (hM.cast (by kernel_rfl))⟩
    ·intro s0 s1 s2 s3 s4 s5 s6 s7 hc hi hp a w hS
     obtain rfl : s5 = false := hi
     obtain rfl : s4 = true := hp 4 (by kernel_rfl)
     obtain rfl : s3 = true := hp 3 (by kernel_rfl)
     obtain rfl : s2 = true := hp 2 (by kernel_rfl)
     obtain ⟨bb18, hF1, hM⟩ := hS
     refine eM 22 (v := .int .i64 (regI port i1 i3 la)) hF1 hM (by kernel_rfl) (yld_call (f := 36) (args := #[.agg #[.slice A la.length ca, .slice A2 lq.length cq_, .int .i64 t, .slice A3 ls.length cs, .slice A4 lm.length cm], .int .i64 port, .agg #[.int .i64 i1, .int .i64 i2, .int .i64 i3, .int .i64 i4, .int .i64 i5]]) hF1 (by kernel_rfl) (fun _ => by kernel_rfl) (fun w hM => registration_w A la ca A2 lq cq_ t A3 ls cs A4 lm cm port i1 i2 i3 i4 i5 w (hM.ok 1 _ rfl) hW (hM.ok 2 _ rfl) hW2 (hM.ok 3 _ rfl) (hM.ok 4 _ rfl) hW4 (by omega))) fun a1 w hF1 hM => ?_
     exact ⟨bb18, ((hF1.repl 11 (by kernel_rfl)).cast (by kernel_rfl)), (hM.cast (by kernel_rfl))⟩
    ·intro s0 s1 s2 s3 s4 s5 s6 s7 hc hi hp a w hS
     obtain rfl : s6 = false := hi
     obtain rfl : s7 = false := hc.f 7 6 (by kernel_rfl) rfl
     obtain ⟨bb18, hF1, hM⟩ := hS
     refine eN 9 22 (t := 3) (fun b => .pointer (some ⟨b, 0, none⟩)) #[.int .i64 0] hF1 hM (by kernel_rfl) (fun _ => by kernel_rfl) fun bb18 a1 w hF1 hM => ?_
     exact ⟨bb18, ((hF1.repl 5 (by kernel_rfl)).cast (by kernel_rfl)), ((hM.repl 10 (by kernel_rfl)).cast (by kernel_rfl))⟩
    ·intro s0 s1 s2 s3 s4 s5 s6 s7 hc hi hp a w hS
     obtain rfl : s7 = false := hi
     obtain rfl : s6 = true := hp 6 (by kernel_rfl)
     obtain rfl : s5 = true := hp 5 (by kernel_rfl)
     obtain ⟨bb18, hF1, hM⟩ := hS
     refine sStore (i := 22) (off := 0) (cs' := #[.int .i64 (regI port i1 i3 la)]) hF1 hM (by kernel_rfl) rfl rfl (by kernel_rfl) (by kernel_rfl) rfl (by kernel_rfl) fun w hM => ?_
     exact ⟨bb18, (hF1.cast (by kernel_rfl)), ((hM.repl 10 (by kernel_rfl)).cast (by kernel_rfl))⟩
   ·intro a1 w hS
    obtain ⟨bb18, hF1, hM⟩ := hS
    replace hF1 : Fr 89 [(1, some (.int .i64 port)), (3, some (.int .i64 t)), (4, some (.pointer (some ⟨bb16, 0, none⟩))), (6, some (.pointer (some ⟨bb17, 0, none⟩))), (8, some (.int .i64 0)), (9, some (.pointer (some ⟨bb18, 0, none⟩))), (17, some (.pointer (some ⟨bb4, 0, none⟩))), (18, some (.pointer (some ⟨bb4, 0, none⟩))), (19, some (.agg #[.slice A la.length ca, .slice A2 lq.length cq_, .int .i64 t, .slice A3 ls.length cs, .slice A4 lm.length cm])), (20, some (.int .i64 port)), (21, some (.agg #[.int .i64 i1, .int .i64 i2, .int .i64 i3, .int .i64 i4, .int .i64 i5])), (22, some (.int .i64 (regI port i1 i3 la)))] a1 := hF1.cast (by kernel_rfl)
    replace hM : Mem w0.heap.size w0 [(1, some (.ro A (flatR la))), (2, some (.ro A2 (flatR lq))), (3, some (.ro A3 (ls.map (Value.int .i64)))), (4, some (.ro A4 (flatR lm))), (5, some (.row bb1 27 #[.slice A la.length ca, .slice A2 lq.length cq_, .int .i64 now, .slice A3 ls.length cs, .slice A4 lm.length cm])), (6, some (.row bb2 39 #[.int .i64 i1, .int .i64 i2, .int .i64 i3, .int .i64 i4, .int .i64 i5])), (7, some (.row bb3 27 #[.slice none 0 0, .slice none 0 0, .int .i64 0, .slice none 0 0, .slice none 0 0])), (8, some (.row bb4 85 #[.slice A la.length ca, .slice A2 lq.length cq_, .int .i64 t, .slice A3 ls.length cs, .slice A4 lm.length cm])), (20, some (.row bb16 103 #[.pointer (some ⟨bb4, 0, none⟩)])), (21, some (.row bb17 39 #[.int .i64 i1, .int .i64 i2, .int .i64 i3, .int .i64 i4, .int .i64 i5])), (22, some (.row bb18 3 #[.int .i64 (regI port i1 i3 la)]))] w := hM.cast (by kernel_rfl)
    refine hK97 _ _ ?_
    refine wp_seq_k fun K98 hK98 => ?_
    refine wp_seq_k fun K99 hK99 => ?_
    refine wp_region_lit ?_
    refine wl (eL 23 22 0 (v := .int .i64 (regI port i1 i3 la)) hF1 hM (by kernel_rfl) rfl rfl (by kernel_rfl) (by kernel_rfl) fun a1 w hF1 hM => ?_)
    refine sB 1 [(24, .bool (decide (regI port i1 i3 la < 0)))] hF1 (by kernel_rfl) fun a1 hF1 => ?_
    refine wpList_nil ?_
    refine hK99 _ _ ?_
    by_cases hz10 : regI port i1 i3 la < 0
    ·skip
     replace hF1 := hF1.c hF1 (i := 24) (v := .bool true) rfl (bT hz10)
     refine cT hF1 (by kernel_rfl) (by kernel_rfl) ?_
     refine wp_seq_k fun K100 hK100 => ?_
     refine wp_region_lit ?_
     refine sB 1 [(8, .int .i64 1)] hF1 (by kernel_rfl) fun a1 hF1 => ?_
     refine wpList_nil ?_
     refine hK100 _ _ ?_
     refine wp_ret ?_
     refine hR95 _ _ ?_
     refine ret_of hF1 hM (.tmp rfl (.nil)) ⟨_, rfl, ?_⟩
     intro a hF
     refine sB 1 [(14, .int .i64 1)] hF (by kernel_rfl) fun a hF => ?_
     refine wpList_nil ?_
     refine hK94 _ _ ?_
     refine wp_seq_k fun K101 hK101 => ?_
     refine wp_region_lit ?_
     refine sB 1 [(55, .pointer (some ⟨bb4, 0, none⟩))] hF (by kernel_rfl) fun a hF => ?_
     refine wl (eL 56 8 0 (v := .agg #[.slice A la.length ca, .slice A2 lq.length cq_, .int .i64 t, .slice A3 ls.length cs, .slice A4 lm.length cm]) hF hM (by kernel_rfl) rfl rfl (by kernel_rfl) (by kernel_rfl) fun a w hF hM => ?_)
     refine sB 1 [(57, .int .i64 1)] hF (by kernel_rfl) fun a hF => ?_
     refine wl (sStore (i := 7) (off := 0) (cs' := #[.slice A la.length ca, .slice A2 lq.length cq_, .int .i64 t, .slice A3 ls.length cs, .slice A4 lm.length cm]) hF hM (by kernel_rfl) rfl rfl (by kernel_rfl) (by kernel_rfl) rfl (by kernel_rfl) fun w hM => ?_)
     refine sB 2 [(9, .int .i64 1), (10, .int .i64 0)] hF (by kernel_rfl) fun a hF => ?_
     refine wpList_nil ?_
     refine hK101 _ _ ?_
     refine wp_ret ?_
     refine hR0 _ _ ?_
     refine ret_of hF hM (.cell (i := 7) rfl rfl (v := .agg #[.slice A la.length ca, .slice A2 lq.length cq_, .int .i64 t, .slice A3 ls.length cs, .slice A4 lm.length cm]) (by kernel_rfl) (.tmp rfl (.tmp rfl (.nil)))) ?_
     have e2 := e.symm.trans (show psR la lq ls lm port i1 i3 i4 t = (ls, lm, 1) from by unfold psR; rw [if_neg (show ¬ i3 ≤ 5 by omega)]; have hA : psA la ls port i1 i3 i4 t = (ls, 1) := by { unfold psA; rw [if_pos hz10] }; rw [hA])
     have eq1 := (Prod.mk.inj e2).1
     have eq2 := (Prod.mk.inj (Prod.mk.inj e2).2).1
     have eq3 := (Prod.mk.inj (Prod.mk.inj e2).2).2
     clear e2 e
     subst eq1 eq2 eq3
     subst e3 e4
     exact ⟨_, _, _, _, rfl, hM.roSame (k := 3) rfl, hM.roSame (k := 4) rfl, hM.bel⟩
    ·skip
     replace hF1 := hF1.c hF1 (i := 24) (v := .bool false) rfl (bF hz10)
     refine cF hF1 (by kernel_rfl) (by kernel_rfl) ?_
     refine wp_skip ?_
     refine hK98 _ _ ?_
     refine wp_seq_k fun K102 hK102 => ?_
     obtain ⟨kk, hkk, hklt, hkr, hkn⟩ := reg_pos hz10
     rw [hkk] at hF1
     rw [hkk] at hM
     refine rF (by kernel_rfl) (by kernel_rfl) (fun S a w => ∃ bb19 : Nat, Fr 89 [(3, some (.int .i64 t)), (4, some (.pointer (some ⟨bb16, 0, none⟩))), (6, some (.pointer (some ⟨bb17, 0, none⟩))), (8, some (.int .i64 0)), (9, some (.pointer (some ⟨bb18, 0, none⟩))), (10, (cond (S.getD 8 false) (some (.pointer (some ⟨bb19, 0, none⟩))) none)), (25, (cond (S.getD 0 false) (some (.pointer (some ⟨bb4, 0, none⟩))) none)), (26, (cond (S.getD 1 false) (some (.pointer (some ⟨bb4, 0, none⟩))) none)), (27, (cond (S.getD 2 false) (some (.pointer (some ⟨bb4, 0, none⟩))) none)), (28, (cond (S.getD 3 false) (some (.pointer (some ⟨bb4, 0, none⟩))) none)), (29, (cond (S.getD 4 false) (some (.slice A la.length ca)) none)), (30, (cond (S.getD 5 false) (some (.int .i64 (kk : Int))) none)), (31, (cond (S.getD 6 false) (some (.pointer (some (ea A (kk * 7))))) none)), (32, (cond (S.getD 7 false) (some (.agg #[.int .i64 (rc la kk 0), .int .i64 (rc la kk 1), .int .i64 (rc la kk 2), .int .i64 (rc la kk 3), .int .i64 (rc la kk 4), .int .i64 (rc la kk 5), .int .i64 (rc la kk 6)])) none))] a ∧ Mem w0.heap.size w0 [(1, some (.ro A (flatR la))), (2, some (.ro A2 (flatR lq))), (3, some (.ro A3 (ls.map (Value.int .i64)))), (4, some (.ro A4 (flatR lm))), (5, some (.row bb1 27 #[.slice A la.length ca, .slice A2 lq.length cq_, .int .i64 now, .slice A3 ls.length cs, .slice A4 lm.length cm])), (6, some (.row bb2 39 #[.int .i64 i1, .int .i64 i2, .int .i64 i3, .int .i64 i4, .int .i64 i5])), (7, some (.row bb3 27 #[.slice none 0 0, .slice none 0 0, .int .i64 0, .slice none 0 0, .slice none 0 0])), (8, some (.row bb4 85 #[.slice A la.length ca, .slice A2 lq.length cq_, .int .i64 t, .slice A3 ls.length cs, .slice A4 lm.length cm])), (20, some (.row bb16 103 #[.pointer (some ⟨bb4, 0, none⟩)])), (21, some (.row bb17 39 #[.int .i64 i1, .int .i64 i2, .int .i64 i3, .int .i64 i4, .int .i64 i5])), (22, some (.row bb18 3 #[.int .i64 (kk : Int)])), (23, (cond (S.getD 9 false) (some (.row bb19 57 #[.int .i64 (rc la kk 0), .int .i64 (rc la kk 1), .int .i64 (rc la kk 2), .int .i64 (rc la kk 3), .int .i64 (rc la kk 4), .int .i64 (rc la kk 5), .int .i64 (rc la kk 6)])) (cond (S.getD 8 false) (some (.row bb19 57 #[.int .i64 0, .int .i64 0, .int .i64 0, .int .i64 0, .int .i64 0, .int .i64 0, .int .i64 0])) none)))] w) ?_ ?_ ?_
     ·exact ⟨0, (((((((((((((((Fr.nil hF1).co hF1 (i := 32) (by kernel_rfl)).co hF1 (i := 31) (by kernel_rfl)).co hF1 (i := 30) (by kernel_rfl)).co hF1 (i := 29) (by kernel_rfl)).co hF1 (i := 28) (by kernel_rfl)).co hF1 (i := 27) (by kernel_rfl)).co hF1 (i := 26) (by kernel_rfl)).co hF1 (i := 25) (by kernel_rfl)).co hF1 (i := 10) (by kernel_rfl)).co hF1 (i := 9) (by kernel_rfl)).co hF1 (i := 8) (by kernel_rfl)).co hF1 (i := 6) (by kernel_rfl)).co hF1 (i := 4) (by kernel_rfl)).co hF1 (i := 3) (by kernel_rfl)), hM.drew.sub ((((((((((((Sub.nil.co (k := 23) (by kernel_rfl)).co (k := 22) (by kernel_rfl)).co (k := 21) (by kernel_rfl)).co (k := 20) (by kernel_rfl)).co (k := 8) (by kernel_rfl)).co (k := 7) (by kernel_rfl)).co (k := 6) (by kernel_rfl)).co (k := 5) (by kernel_rfl)).co (k := 4) (by kernel_rfl)).co (k := 3) (by kernel_rfl)).co (k := 2) (by kernel_rfl)).co (k := 1) (by kernel_rfl))⟩
     ·refine stC ?_ (stC ?_ (stC ?_ (stC ?_ (stC ?_ (stC ?_ (stC ?_ (stC ?_ (stC ?_ (stC ?_ (trivial))))))))))
      ·intro s0 s1 s2 s3 s4 s5 s6 s7 s8 s9 hc hi hp a w hS
       obtain rfl : s0 = false := hi
       obtain ⟨bb19, hF1, hM⟩ := hS
       refine eL 25 20 0 (v := .pointer (some ⟨bb4, 0, none⟩)) hF1 hM (by kernel_rfl) rfl rfl (by kernel_rfl) (by kernel_rfl) fun a1 w hF1 hM => ?_
       exact ⟨bb19, ((hF1.repl 6 (by kernel_rfl)).cast (by kernel_rfl)), (hM.cast (by kernel_rfl))⟩
      ·intro s0 s1 s2 s3 s4 s5 s6 s7 s8 s9 hc hi hp a w hS
       obtain rfl : s1 = false := hi
       obtain rfl : s0 = true := hp 0 (by kernel_rfl)
       obtain ⟨bb19, hF1, hM⟩ := hS
       refine eP 26 (v0 := .pointer (some ⟨bb4, 0, none⟩)) (v := .pointer (some ⟨bb4, 0, none⟩)) hF1 (by kernel_rfl) (fun _ => by kernel_rfl) rfl fun a1 hF1 => ?_
       exact ⟨bb19, ((hF1.repl 7 (by kernel_rfl)).cast (by kernel_rfl)), (hM.cast (by kernel_rfl))⟩
      ·intro s0 s1 s2 s3 s4 s5 s6 s7 s8 s9 hc hi hp a w hS
       obtain rfl : s2 = false := hi
       obtain rfl : s1 = true := hp 1 (by kernel_rfl)
       obtain ⟨bb19, hF1, hM⟩ := hS
       refine eP 27 (v0 := .pointer (some ⟨bb4, 0, none⟩)) (v := .pointer (some ⟨bb4, 0, none⟩)) hF1 (by kernel_rfl) (fun _ => by kernel_rfl) rfl fun a1 hF1 => ?_
       exact ⟨bb19, ((hF1.repl 8 (by kernel_rfl)).cast (by kernel_rfl)), (hM.cast (by kernel_rfl))⟩
      ·intro s0 s1 s2 s3 s4 s5 s6 s7 s8 s9 hc hi hp a w hS
       obtain rfl : s3 = false := hi
       obtain rfl : s2 = true := hp 2 (by kernel_rfl)
       obtain ⟨bb19, hF1, hM⟩ := hS
       refine eP 28 (v0 := .pointer (some ⟨bb4, 0, none⟩)) (v := .pointer (some ⟨bb4, 0, none⟩)) hF1 (by kernel_rfl) (fun _ => by kernel_rfl) rfl fun a1 hF1 => ?_
       exact ⟨bb19, ((hF1.repl 9 (by kernel_rfl)).cast (by kernel_rfl)), (hM.cast (by kernel_rfl))⟩
      ·intro s0 s1 s2 s3 s4 s5 s6 s7 s8 s9 hc hi hp a w hS
       obtain rfl : s4 = false := hi
       obtain rfl : s3 = true := hp 3 (by kernel_rfl)
       obtain ⟨bb19, hF1, hM⟩ := hS
       refine eL 29 8 0 (v := .slice A la.length ca) hF1 hM (by kernel_rfl) rfl rfl (by kernel_rfl) (by kernel_rfl) fun a1 w hF1 hM => ?_
       exact ⟨bb19, ((hF1.repl 10 (by kernel_rfl)).cast (by kernel_rfl)), (hM.cast (by kernel_rfl))⟩
      ·intro s0 s1 s2 s3 s4 s5 s6 s7 s8 s9 hc hi hp a w hS
       obtain rfl : s5 = false := hi
       obtain ⟨bb19, hF1, hM⟩ := hS
       refine eL 30 22 0 (v := .int .i64 (kk : Int)) hF1 hM (by kernel_rfl) rfl rfl (by kernel_rfl) (by kernel_rfl) fun a1 w hF1 hM => ?_
       exact ⟨bb19, ((hF1.repl 11 (by kernel_rfl)).cast (by kernel_rfl)), (hM.cast (by kernel_rfl))⟩
      ·intro s0 s1 s2 s3 s4 s5 s6 s7 s8 s9 hc hi hp a w hS
       obtain rfl : s6 = false := hi
       obtain rfl : s5 = true := hp 5 (by kernel_rfl)
       obtain rfl : s4 = true := hp 4 (by kernel_rfl)
       obtain ⟨bb19, hF1, hM⟩ := hS
       refine eM 31 (v := .pointer (some (ea A (kk * 7)))) hF1 hM (by kernel_rfl) (yld_ix (kd := .i64) (e := 57) (len := la.length) (cap := ca) (i := (kk : Int)) (size := 7) (A := A) hF1 rfl (by kernel_rfl) (by kernel_rfl) (by kernel_rfl) (by kernel_rfl) (by kernel_rfl) (roK 1 rfl) (by omega) (by omega) (by rw [flatR_length hW]; (try simp only [List.length_map, List.length_append, List.length_replicate, List.length_set, List.length_cons, List.length_nil, flat2_length, List.length_take]); omega)) fun a1 w hF1 hM => ?_
       exact ⟨bb19, ((hF1.repl 12 (by kernel_rfl)).cast (by kernel_rfl)), (hM.cast (by kernel_rfl))⟩
      ·intro s0 s1 s2 s3 s4 s5 s6 s7 s8 s9 hc hi hp a w hS
       obtain rfl : s7 = false := hi
       obtain rfl : s6 = true := hp 6 (by kernel_rfl)
       obtain ⟨bb19, hF1, hM⟩ := hS
       refine eM 32 (v := .agg #[.int .i64 (rc la kk 0), .int .i64 (rc la kk 1), .int .i64 (rc la kk 2), .int .i64 (rc la kk 3), .int .i64 (rc la kk 4), .int .i64 (rc la kk 5), .int .i64 (rc la kk 6)]) hF1 hM (by kernel_rfl) (yld_roM (A := A) (j := kk * 7) (us := [.int .i64 (rc la kk 0), .int .i64 (rc la kk 1), .int .i64 (rc la kk 2), .int .i64 (rc la kk 3), .int .i64 (rc la kk 4), .int .i64 (rc la kk 5), .int .i64 (rc la kk 6)]) hF1 rfl (by kernel_rfl) (by kernel_rfl) (roK 1 rfl) (by kernel_rfl) rfl (rc_sub (k := kk) (f := 0) (m := 7) hW (by omega) (by decide) rfl)) fun a1 w hF1 hM => ?_
       exact ⟨bb19, ((hF1.repl 13 (by kernel_rfl)).cast (by kernel_rfl)), (hM.cast (by kernel_rfl))⟩
      ·intro s0 s1 s2 s3 s4 s5 s6 s7 s8 s9 hc hi hp a w hS
       obtain rfl : s8 = false := hi
       obtain rfl : s9 = false := hc.f 9 8 (by kernel_rfl) rfl
       obtain ⟨bb19, hF1, hM⟩ := hS
       refine eN 10 23 (t := 57) (fun b => .pointer (some ⟨b, 0, none⟩)) #[.int .i64 0, .int .i64 0, .int .i64 0, .int .i64 0, .int .i64 0, .int .i64 0, .int .i64 0] hF1 hM (by kernel_rfl) (fun _ => by kernel_rfl) fun bb19 a1 w hF1 hM => ?_
       exact ⟨bb19, ((hF1.repl 5 (by kernel_rfl)).cast (by kernel_rfl)), ((hM.repl 11 (by kernel_rfl)).cast (by kernel_rfl))⟩
      ·intro s0 s1 s2 s3 s4 s5 s6 s7 s8 s9 hc hi hp a w hS
       obtain rfl : s9 = false := hi
       obtain rfl : s8 = true := hp 8 (by kernel_rfl)
       obtain rfl : s7 = true := hp 7 (by kernel_rfl)
       obtain ⟨bb19, hF1, hM⟩ := hS
       refine sStore (i := 23) (off := 0) (cs' := #[.int .i64 (rc la kk 0), .int .i64 (rc la kk 1), .int .i64 (rc la kk 2), .int .i64 (rc la kk 3), .int .i64 (rc la kk 4), .int .i64 (rc la kk 5), .int .i64 (rc la kk 6)]) hF1 hM (by kernel_rfl) rfl rfl (by kernel_rfl) (by kernel_rfl) rfl (by kernel_rfl) fun w hM => ?_
       exact ⟨bb19, (hF1.cast (by kernel_rfl)), ((hM.repl 11 (by kernel_rfl)).cast (by kernel_rfl))⟩
     ·intro a1 w hS
      obtain ⟨bb19, hF1, hM⟩ := hS
      replace hF1 : Fr 89 [(3, some (.int .i64 t)), (4, some (.pointer (some ⟨bb16, 0, none⟩))), (6, some (.pointer (some ⟨bb17, 0, none⟩))), (8, some (.int .i64 0)), (9, some (.pointer (some ⟨bb18, 0, none⟩))), (10, some (.pointer (some ⟨bb19, 0, none⟩))), (25, some (.pointer (some ⟨bb4, 0, none⟩))), (26, some (.pointer (some ⟨bb4, 0, none⟩))), (27, some (.pointer (some ⟨bb4, 0, none⟩))), (28, some (.pointer (some ⟨bb4, 0, none⟩))), (29, some (.slice A la.length ca)), (30, some (.int .i64 (kk : Int))), (31, some (.pointer (some (ea A (kk * 7))))), (32, some (.agg #[.int .i64 (rc la kk 0), .int .i64 (rc la kk 1), .int .i64 (rc la kk 2), .int .i64 (rc la kk 3), .int .i64 (rc la kk 4), .int .i64 (rc la kk 5), .int .i64 (rc la kk 6)]))] a1 := hF1.cast (by kernel_rfl)
      replace hM : Mem w0.heap.size w0 [(1, some (.ro A (flatR la))), (2, some (.ro A2 (flatR lq))), (3, some (.ro A3 (ls.map (Value.int .i64)))), (4, some (.ro A4 (flatR lm))), (5, some (.row bb1 27 #[.slice A la.length ca, .slice A2 lq.length cq_, .int .i64 now, .slice A3 ls.length cs, .slice A4 lm.length cm])), (6, some (.row bb2 39 #[.int .i64 i1, .int .i64 i2, .int .i64 i3, .int .i64 i4, .int .i64 i5])), (7, some (.row bb3 27 #[.slice none 0 0, .slice none 0 0, .int .i64 0, .slice none 0 0, .slice none 0 0])), (8, some (.row bb4 85 #[.slice A la.length ca, .slice A2 lq.length cq_, .int .i64 t, .slice A3 ls.length cs, .slice A4 lm.length cm])), (20, some (.row bb16 103 #[.pointer (some ⟨bb4, 0, none⟩)])), (21, some (.row bb17 39 #[.int .i64 i1, .int .i64 i2, .int .i64 i3, .int .i64 i4, .int .i64 i5])), (22, some (.row bb18 3 #[.int .i64 (kk : Int)])), (23, some (.row bb19 57 #[.int .i64 (rc la kk 0), .int .i64 (rc la kk 1), .int .i64 (rc la kk 2), .int .i64 (rc la kk 3), .int .i64 (rc la kk 4), .int .i64 (rc la kk 5), .int .i64 (rc la kk 6)]))] w := hM.cast (by kernel_rfl)
      refine hK102 _ _ ?_
      refine wp_seq_k fun K103 hK103 => ?_
      refine wp_seq_k fun K104 hK104 => ?_
      refine wp_region_lit ?_
      refine sB 1 [(33, .pointer (some ⟨bb19, 2, none⟩))] hF1 (by kernel_rfl) fun a1 hF1 => ?_
      refine wl (eL 34 23 2 (v := .int .i64 (rc la kk 2)) hF1 hM (by kernel_rfl) rfl rfl (by kernel_rfl) (by kernel_rfl) fun a1 w hF1 hM => ?_)
      refine sB 1 [(35, .bool (decide (rc la kk 2 = 6)))] hF1 (by kernel_rfl) fun a1 hF1 => ?_
      refine wpList_nil ?_
      refine hK104 _ _ ?_
      by_cases hz11 : rc la kk 2 = 6
      ·skip
       replace hF1 := hF1.c hF1 (i := 35) (v := .bool true) rfl (bT hz11)
       refine cT hF1 (by kernel_rfl) (by kernel_rfl) ?_
       refine wp_seq_k fun K105 hK105 => ?_
       refine wp_seq_k fun K106 hK106 => ?_
       refine wp_region_lit ?_
       refine sB 1 [(36, .pointer (some ⟨bb17, 3, none⟩))] hF1 (by kernel_rfl) fun a1 hF1 => ?_
       refine wl (eL 37 21 3 (v := .int .i64 i4) hF1 hM (by kernel_rfl) rfl rfl (by kernel_rfl) (by kernel_rfl) fun a1 w hF1 hM => ?_)
       refine sB 1 [(38, .pointer (some ⟨bb19, 3, none⟩))] hF1 (by kernel_rfl) fun a1 hF1 => ?_
       refine wl (eL 39 23 3 (v := .int .i64 (rc la kk 3)) hF1 hM (by kernel_rfl) rfl rfl (by kernel_rfl) (by kernel_rfl) fun a1 w hF1 hM => ?_)
       refine sB 1 [(40, .bool (decide (rc la kk 3 < i4)))] hF1 (by kernel_rfl) fun a1 hF1 => ?_
       refine wpList_nil ?_
       refine hK106 _ _ ?_
       by_cases hz12 : rc la kk 3 < i4
       ·skip
        replace hF1 := hF1.c hF1 (i := 40) (v := .bool true) rfl (bT hz12)
        refine cT hF1 (by kernel_rfl) (by kernel_rfl) ?_
        refine wp_seq_k fun K107 hK107 => ?_
        refine wp_region_lit ?_
        refine sB 1 [(8, .int .i64 2)] hF1 (by kernel_rfl) fun a1 hF1 => ?_
        refine wpList_nil ?_
        refine hK107 _ _ ?_
        refine wp_ret ?_
        refine hR95 _ _ ?_
        refine ret_of hF1 hM (.tmp rfl (.nil)) ⟨_, rfl, ?_⟩
        intro a hF
        refine sB 1 [(14, .int .i64 2)] hF (by kernel_rfl) fun a hF => ?_
        refine wpList_nil ?_
        refine hK94 _ _ ?_
        refine wp_seq_k fun K108 hK108 => ?_
        refine wp_region_lit ?_
        refine sB 1 [(55, .pointer (some ⟨bb4, 0, none⟩))] hF (by kernel_rfl) fun a hF => ?_
        refine wl (eL 56 8 0 (v := .agg #[.slice A la.length ca, .slice A2 lq.length cq_, .int .i64 t, .slice A3 ls.length cs, .slice A4 lm.length cm]) hF hM (by kernel_rfl) rfl rfl (by kernel_rfl) (by kernel_rfl) fun a w hF hM => ?_)
        refine sB 1 [(57, .int .i64 2)] hF (by kernel_rfl) fun a hF => ?_
        refine wl (sStore (i := 7) (off := 0) (cs' := #[.slice A la.length ca, .slice A2 lq.length cq_, .int .i64 t, .slice A3 ls.length cs, .slice A4 lm.length cm]) hF hM (by kernel_rfl) rfl rfl (by kernel_rfl) (by kernel_rfl) rfl (by kernel_rfl) fun w hM => ?_)
        refine sB 2 [(9, .int .i64 2), (10, .int .i64 0)] hF (by kernel_rfl) fun a hF => ?_
        refine wpList_nil ?_
        refine hK108 _ _ ?_
        refine wp_ret ?_
        refine hR0 _ _ ?_
        refine ret_of hF hM (.cell (i := 7) rfl rfl (v := .agg #[.slice A la.length ca, .slice A2 lq.length cq_, .int .i64 t, .slice A3 ls.length cs, .slice A4 lm.length cm]) (by kernel_rfl) (.tmp rfl (.tmp rfl (.nil)))) ?_
        have e2 := e.symm.trans (show psR la lq ls lm port i1 i3 i4 t = (ls, lm, 2) from by unfold psR; rw [if_neg (show ¬ i3 ≤ 5 by omega)]; have hA : psA la ls port i1 i3 i4 t = (ls, 2) := by { unfold psA; rw [if_neg (show ¬ regI port i1 i3 la < 0 by omega), hkk, Int.toNat_natCast, if_pos hz11, if_pos hz12] }; rw [hA])
        have eq1 := (Prod.mk.inj e2).1
        have eq2 := (Prod.mk.inj (Prod.mk.inj e2).2).1
        have eq3 := (Prod.mk.inj (Prod.mk.inj e2).2).2
        clear e2 e
        subst eq1 eq2 eq3
        subst e3 e4
        exact ⟨_, _, _, _, rfl, hM.roSame (k := 3) rfl, hM.roSame (k := 4) rfl, hM.bel⟩
       ·skip
        replace hF1 := hF1.c hF1 (i := 40) (v := .bool false) rfl (bF hz12)
        refine cF hF1 (by kernel_rfl) (by kernel_rfl) ?_
        refine wp_skip ?_
        refine hK105 _ _ ?_
        refine wp_seq_k fun K109 hK109 => ?_
        refine wp_region_lit ?_
        refine sB 1 [(8, .int .i64 0)] hF1 (by kernel_rfl) fun a1 hF1 => ?_
        refine wpList_nil ?_
        refine hK109 _ _ ?_
        refine wp_ret ?_
        refine hR95 _ _ ?_
        refine ret_of hF1 hM (.tmp rfl (.nil)) ⟨_, rfl, ?_⟩
        intro a hF
        refine sB 1 [(14, .int .i64 0)] hF (by kernel_rfl) fun a hF => ?_
        refine wpList_nil ?_
        refine hK94 _ _ ?_
        refine wp_seq_k fun K110 hK110 => ?_
        refine wp_region_lit ?_
        refine sB 1 [(55, .pointer (some ⟨bb4, 0, none⟩))] hF (by kernel_rfl) fun a hF => ?_
        refine wl (eL 56 8 0 (v := .agg #[.slice A la.length ca, .slice A2 lq.length cq_, .int .i64 t, .slice A3 ls.length cs, .slice A4 lm.length cm]) hF hM (by kernel_rfl) rfl rfl (by kernel_rfl) (by kernel_rfl) fun a w hF hM => ?_)
        refine sB 1 [(57, .int .i64 0)] hF (by kernel_rfl) fun a hF => ?_
        refine wl (sStore (i := 7) (off := 0) (cs' := #[.slice A la.length ca, .slice A2 lq.length cq_, .int .i64 t, .slice A3 ls.length cs, .slice A4 lm.length cm]) hF hM (by kernel_rfl) rfl rfl (by kernel_rfl) (by kernel_rfl) rfl (by kernel_rfl) fun w hM => ?_)
        refine sB 2 [(9, .int .i64 0), (10, .int .i64 0)] hF (by kernel_rfl) fun a hF => ?_
        refine wpList_nil ?_
        refine hK110 _ _ ?_
        refine wp_ret ?_
        refine hR0 _ _ ?_
        refine ret_of hF hM (.cell (i := 7) rfl rfl (v := .agg #[.slice A la.length ca, .slice A2 lq.length cq_, .int .i64 t, .slice A3 ls.length cs, .slice A4 lm.length cm]) (by kernel_rfl) (.tmp rfl (.tmp rfl (.nil)))) ?_
        have e2 := e.symm.trans (show psR la lq ls lm port i1 i3 i4 t = (ls, lm, 0) from by unfold psR; rw [if_neg (show ¬ i3 ≤ 5 by omega)]; have hA : psA la ls port i1 i3 i4 t = (ls, 0) := by { unfold psA; rw [if_neg (show ¬ regI port i1 i3 la < 0 by omega), hkk, Int.toNat_natCast, if_pos hz11, if_neg hz12] }; rw [hA])
        have eq1 := (Prod.mk.inj e2).1
        have eq2 := (Prod.mk.inj (Prod.mk.inj e2).2).1
        have eq3 := (Prod.mk.inj (Prod.mk.inj e2).2).2
        clear e2 e
        subst eq1 eq2 eq3
        subst e3 e4
        exact ⟨_, _, _, _, rfl, hM.roSame (k := 3) rfl, hM.roSame (k := 4) rfl, hM.bel⟩
      ·skip
       replace hF1 := hF1.c hF1 (i := 35) (v := .bool false) rfl (bF hz11)
       refine cF hF1 (by kernel_rfl) (by kernel_rfl) ?_
       refine wp_skip ?_
       refine hK103 _ _ ?_
       refine wp_seq_k fun K111 hK111 => ?_
       have hva := va_7 (va_k h0 hklt) hz11
       refine wp_region_lit ?_
       refine sB 2 [(41, .int .i64 t), (42, .pointer (some ⟨bb19, 5, none⟩))] hF1 (by kernel_rfl) fun a1 hF1 => ?_
       refine wl (eL 43 23 5 (v := .int .i64 (rc la kk 5)) hF1 hM (by kernel_rfl) rfl rfl (by kernel_rfl) (by kernel_rfl) fun a1 w hF1 hM => ?_)
       refine wl (eP 44 (v0 := .int .i64 (IntKind.i64.wrap (t - rc la kk 5))) (v := .int .i64 (t - rc la kk 5)) hF1 (by kernel_rfl) (fun _ => by kernel_rfl) (wi (by omega)) fun a1 hF1 => ?_)
       refine sB 1 [(45, .pointer (some ⟨bb19, 4, none⟩))] hF1 (by kernel_rfl) fun a1 hF1 => ?_
       refine wl (eL 46 23 4 (v := .int .i64 (rc la kk 4)) hF1 hM (by kernel_rfl) rfl rfl (by kernel_rfl) (by kernel_rfl) fun a1 w hF1 hM => ?_)
       obtain ⟨io, hio⟩ : ∃ z : Int, (t - rc la kk 5) % rc la kk 4 = z := ⟨_, rfl⟩
       have hbio : 0 ≤ io ∧ io < rc la kk 4 := by rw [← hio]; exact ⟨Int.emod_nonneg _ (by omega), Int.emod_lt_of_pos _ (by omega)⟩
       refine wl (eM 47 (v := .int .i64 io) hF1 hM (by kernel_rfl) (yld_call (f := 57) (args := #[.int .i64 (t - rc la kk 5), .int .i64 (rc la kk 4)]) hF1 (by kernel_rfl) (fun _ => by kernel_rfl) (fun w hM => by rw [← hio]; exact fimod_w (t - rc la kk 5) (rc la kk 4) w (by omega))) fun a1 w hF1 hM => ?_)
       refine wl (eN 11 24 (t := 3) (fun b => .pointer (some ⟨b, 0, none⟩)) #[.int .i64 0] hF1 hM (by kernel_rfl) (fun _ => by kernel_rfl) fun bb20 a1 w hF1 hM => ?_)
       refine wl (sStore (i := 24) (off := 0) (cs' := #[.int .i64 io]) hF1 hM (by kernel_rfl) rfl rfl (by kernel_rfl) (by kernel_rfl) rfl (by kernel_rfl) fun w hM => ?_)
       refine wpList_nil ?_
       refine hK111 _ _ ?_
       refine wp_seq_k fun K112 hK112 => ?_
       refine wp_region_lit ?_
       refine sB 2 [(48, .int .i64 t), (49, .pointer (some ⟨bb19, 5, none⟩))] hF1 (by kernel_rfl) fun a1 hF1 => ?_
       refine wl (eL 50 23 5 (v := .int .i64 (rc la kk 5)) hF1 hM (by kernel_rfl) rfl rfl (by kernel_rfl) (by kernel_rfl) fun a1 w hF1 hM => ?_)
       refine wl (eP 51 (v0 := .int .i64 (IntKind.i64.wrap (t - rc la kk 5))) (v := .int .i64 (t - rc la kk 5)) hF1 (by kernel_rfl) (fun _ => by kernel_rfl) (wi (by omega)) fun a1 hF1 => ?_)
       refine wl (eL 52 24 0 (v := .int .i64 io) hF1 hM (by kernel_rfl) rfl rfl (by kernel_rfl) (by kernel_rfl) fun a1 w hF1 hM => ?_)
       refine wl (eP 53 (v0 := .int .i64 (IntKind.i64.wrap (t - rc la kk 5 - io))) (v := .int .i64 (t - rc la kk 5 - io)) hF1 (by kernel_rfl) (fun _ => by kernel_rfl) (wi (by omega)) fun a1 hF1 => ?_)
       refine sB 1 [(54, .pointer (some ⟨bb19, 4, none⟩))] hF1 (by kernel_rfl) fun a1 hF1 => ?_
       refine wl (eL 55 23 4 (v := .int .i64 (rc la kk 4)) hF1 hM (by kernel_rfl) rfl rfl (by kernel_rfl) (by kernel_rfl) fun a1 w hF1 hM => ?_)
       obtain ⟨pe, hpe⟩ : ∃ z : Int, (t - rc la kk 5) / rc la kk 4 = z := ⟨_, rfl⟩
       refine wl (eM 56 (v := .int .i64 pe) hF1 hM (by kernel_rfl) (yld_quo (t - rc la kk 5 - io) (rc la kk 4) hF1 rfl (by kernel_rfl) (by kernel_rfl) (by kernel_rfl) (by omega) ((qany (by omega) (by omega)).trans (by rw [← hio, quo_floor (by omega), hpe]))) fun a1 w hF1 hM => ?_)
       refine wl (eN 12 25 (t := 3) (fun b => .pointer (some ⟨b, 0, none⟩)) #[.int .i64 0] hF1 hM (by kernel_rfl) (fun _ => by kernel_rfl) fun bb21 a1 w hF1 hM => ?_)
       refine wl (sStore (i := 25) (off := 0) (cs' := #[.int .i64 pe]) hF1 hM (by kernel_rfl) rfl rfl (by kernel_rfl) (by kernel_rfl) rfl (by kernel_rfl) fun w hM => ?_)
       refine wpList_nil ?_
       refine hK112 _ _ ?_
       refine wp_seq_k fun K113 hK113 => ?_
       refine wp_region_lit ?_
       refine sB 7 [(57, .func (.func 58) #[] #[.pointer (some ⟨bb17, 0, none⟩), .pointer (some ⟨bb19, 0, none⟩)]), (58, .agg #[.func (.func 58) #[] #[.pointer (some ⟨bb17, 0, none⟩), .pointer (some ⟨bb19, 0, none⟩)], .int .i64 2]), (59, .func (.func 59) #[] #[.pointer (some ⟨bb21, 0, none⟩), .pointer (some ⟨bb20, 0, none⟩), .pointer (some ⟨bb19, 0, none⟩)]), (60, .agg #[.func (.func 59) #[] #[.pointer (some ⟨bb21, 0, none⟩), .pointer (some ⟨bb20, 0, none⟩), .pointer (some ⟨bb19, 0, none⟩)], .int .i64 3]), (61, .func (.func 60) #[] #[.pointer (some ⟨bb21, 0, none⟩), .pointer (some ⟨bb16, 0, none⟩), .pointer (some ⟨bb18, 0, none⟩)]), (62, .agg #[.func (.func 60) #[] #[.pointer (some ⟨bb21, 0, none⟩), .pointer (some ⟨bb16, 0, none⟩), .pointer (some ⟨bb18, 0, none⟩)], .int .i64 4]), (63, .agg #[.func (.func 58) #[] #[.pointer (some ⟨bb17, 0, none⟩), .pointer (some ⟨bb19, 0, none⟩)], .int .i64 2, .func (.func 59) #[] #[.pointer (some ⟨bb21, 0, none⟩), .pointer (some ⟨bb20, 0, none⟩), .pointer (some ⟨bb19, 0, none⟩)], .int .i64 3, .func (.func 60) #[] #[.pointer (some ⟨bb21, 0, none⟩), .pointer (some ⟨bb16, 0, none⟩), .pointer (some ⟨bb18, 0, none⟩)], .int .i64 4])] hF1 (by kernel_rfl) fun a1 hF1 => ?_
       refine wl (eN 13 26 (t := 107) (fun b => .pointer (some ⟨b, 0, none⟩)) #[.nilFunc, .int .i64 0, .nilFunc, .int .i64 0, .nilFunc, .int .i64 0] hF1 hM (by kernel_rfl) (fun _ => by kernel_rfl) fun bb22 a1 w hF1 hM => ?_)
       refine wl (sStore (i := 26) (off := 0) (cs' := #[.func (.func 58) #[] #[.pointer (some ⟨bb17, 0, none⟩), .pointer (some ⟨bb19, 0, none⟩)], .int .i64 2, .func (.func 59) #[] #[.pointer (some ⟨bb21, 0, none⟩), .pointer (some ⟨bb20, 0, none⟩), .pointer (some ⟨bb19, 0, none⟩)], .int .i64 3, .func (.func 60) #[] #[.pointer (some ⟨bb21, 0, none⟩), .pointer (some ⟨bb16, 0, none⟩), .pointer (some ⟨bb18, 0, none⟩)], .int .i64 4]) hF1 hM (by kernel_rfl) rfl rfl (by kernel_rfl) (by kernel_rfl) rfl (by kernel_rfl) fun w hM => ?_)
       refine wpList_nil ?_
       refine hK113 _ _ ?_
       refine wp_seq_k fun K114 hK114 => ?_
       refine wp_region_lit ?_
       refine sB 1 [(14, .int .i64 0)] hF1 (by kernel_rfl) fun a1 hF1 => ?_
       refine wpList_nil ?_
       refine hK114 _ _ ?_
       refine wp_seq_k fun K115 hK115 => ?_
       refine wp_label ?_
       refine hK115 _ _ ?_
       refine wp_seq_k fun K116 hK116 => ?_
       refine wp_seq_k fun K117 hK117 => ?_
       refine wp_region_lit ?_
       refine wl (eL 64 26 0 (v := .agg #[.func (.func 58) #[] #[.pointer (some ⟨bb17, 0, none⟩), .pointer (some ⟨bb19, 0, none⟩)], .int .i64 2, .func (.func 59) #[] #[.pointer (some ⟨bb21, 0, none⟩), .pointer (some ⟨bb20, 0, none⟩), .pointer (some ⟨bb19, 0, none⟩)], .int .i64 3, .func (.func 60) #[] #[.pointer (some ⟨bb21, 0, none⟩), .pointer (some ⟨bb16, 0, none⟩), .pointer (some ⟨bb18, 0, none⟩)], .int .i64 4]) hF1 hM (by kernel_rfl) rfl rfl (by kernel_rfl) (by kernel_rfl) fun a1 w hF1 hM => ?_)
       refine sB 1 [(65, .int .i64 0)] hF1 (by kernel_rfl) fun a1 hF1 => ?_
       refine wpList_nil ?_
       refine hK117 _ _ ?_
       refine wp_block ?_
       refine wp_loop_rounds 4 ?_
       refine rounds_k fun K118 hK118 => ?_
       refine wp_seq_k fun K119 hK119 => ?_
       refine wp_region_lit ?_
       refine wl (eP 66 (v0 := .bool (decide (0 < 3))) (v := .bool true) hF1 (by kernel_rfl) (fun _ => by kernel_rfl) (bT (by omega)) fun a1 hF1 => ?_)
       refine wpList_nil ?_
       refine hK119 _ _ ?_
       refine wp_seq_k fun K120 hK120 => ?_
       refine cT hF1 (by kernel_rfl) (by kernel_rfl) ?_
       refine wp_skip ?_
       refine hK120 _ _ ?_
       refine wp_seq_k fun K121 hK121 => ?_
       refine wp_block ?_
       refine wp_seq_k fun K122 hK122 => ?_
       refine wp_region_lit ?_
       refine sB 1 [(67, .agg #[.func (.func 58) #[] #[.pointer (some ⟨bb17, 0, none⟩), .pointer (some ⟨bb19, 0, none⟩)], .int .i64 2])] hF1 (by kernel_rfl) fun a1 hF1 => ?_
       refine wl (eN 16 27 (t := 106) (fun b => .pointer (some ⟨b, 0, none⟩)) #[.nilFunc, .int .i64 0] hF1 hM (by kernel_rfl) (fun _ => by kernel_rfl) fun bb23 a1 w hF1 hM => ?_)
       refine wl (sStore (i := 27) (off := 0) (cs' := #[.func (.func 58) #[] #[.pointer (some ⟨bb17, 0, none⟩), .pointer (some ⟨bb19, 0, none⟩)], .int .i64 2]) hF1 hM (by kernel_rfl) rfl rfl (by kernel_rfl) (by kernel_rfl) rfl (by kernel_rfl) fun w hM => ?_)
       refine wpList_nil ?_
       refine hK122 _ _ ?_
       refine wp_seq_k fun K123 hK123 => ?_
       refine wp_region_lit ?_
       refine sB 1 [(68, .pointer (some ⟨bb23, 0, none⟩))] hF1 (by kernel_rfl) fun a1 hF1 => ?_
       refine wl (eL 69 27 0 (v := .func (.func 58) #[] #[.pointer (some ⟨bb17, 0, none⟩), .pointer (some ⟨bb19, 0, none⟩)]) hF1 hM (by kernel_rfl) rfl rfl (by kernel_rfl) (by kernel_rfl) fun a1 w hF1 hM => ?_)
       refine wl (sC (f := 58) (args := #[.pointer (some ⟨bb17, 0, none⟩), .pointer (some ⟨bb19, 0, none⟩)]) hF1 (by kernel_rfl) rfl (by decide) (by kernel_rfl) (fun _ => by kernel_rfl) ?_)
       refine enterK 8 Try.func58 rfl rfl rfl ?_
       intro a2 hF2 QR124 hR124 hNR124
       refine wp_seq_k fun K125 hK125 => ?_
       refine wp_region_lit ?_
       refine sB 1 [(2, .bool false)] hF2 (by kernel_rfl) fun a2 hF2 => ?_
       refine wpList_nil ?_
       refine hK125 _ _ ?_
       refine wp_seq_k fun K126 hK126 => ?_
       have hln := fl_len (fl_p h0)
       have hvi := vi_bd hv
       refine wp_region_lit ?_
       refine sB 1 [(3, .pointer (some ⟨bb17, 3, none⟩))] hF2 (by kernel_rfl) fun a2 hF2 => ?_
       refine wl (eL 4 21 3 (v := .int .i64 i4) hF2 hM (by kernel_rfl) rfl rfl (by kernel_rfl) (by kernel_rfl) fun a2 w hF2 hM => ?_)
       refine sB 1 [(5, .pointer (some ⟨bb19, 3, none⟩))] hF2 (by kernel_rfl) fun a2 hF2 => ?_
       refine wl (eL 6 23 3 (v := .int .i64 (rc la kk 3)) hF2 hM (by kernel_rfl) rfl rfl (by kernel_rfl) (by kernel_rfl) fun a2 w hF2 hM => ?_)
       refine sB 2 [(7, .bool (!decide (i4 = rc la kk 3))), (2, .bool (!decide (i4 = rc la kk 3)))] hF2 (by kernel_rfl) fun a2 hF2 => ?_
       refine wpList_nil ?_
       refine hK126 _ _ ?_
       refine wp_ret ?_
       refine hR124 _ _ ?_
       refine ret_of hF2 hM (.tmp rfl (.nil)) ⟨_, rfl, ?_⟩
       intro a1 hF1
       refine wpList_nil ?_
       refine hK123 _ _ ?_
       by_cases hz13 : i4 = rc la kk 3
       ·skip
        replace hF1 := hF1.c hF1 (i := 70) (v := .bool false) rfl (nT hz13)
        refine cF hF1 (by kernel_rfl) (by kernel_rfl) ?_
        refine wp_skip ?_
        refine hK121 _ _ ?_
        refine wp_region_lit ?_
        refine wl (eP 73 (v0 := .int .i64 (IntKind.i64.wrap (0 + 1))) (v := .int .i64 1) hF1 (by kernel_rfl) (fun _ => by kernel_rfl) (vi (by decide)) fun a1 hF1 => ?_)
        refine sB 1 [(65, .int .i64 1)] hF1 (by kernel_rfl) fun a1 hF1 => ?_
        refine wpList_nil ?_
        refine hK118 _ _ ?_
        refine rounds_k fun K127 hK127 => ?_
        refine wp_seq_k fun K128 hK128 => ?_
        refine wp_region_lit ?_
        refine wl (eP 66 (v0 := .bool (decide (1 < 3))) (v := .bool true) hF1 (by kernel_rfl) (fun _ => by kernel_rfl) (bT (by omega)) fun a1 hF1 => ?_)
        refine wpList_nil ?_
        refine hK128 _ _ ?_
        refine wp_seq_k fun K129 hK129 => ?_
        refine cT hF1 (by kernel_rfl) (by kernel_rfl) ?_
        refine wp_skip ?_
        refine hK129 _ _ ?_
        refine wp_seq_k fun K130 hK130 => ?_
        refine wp_block ?_
        refine wp_seq_k fun K131 hK131 => ?_
        refine wp_region_lit ?_
        refine sB 1 [(67, .agg #[.func (.func 59) #[] #[.pointer (some ⟨bb21, 0, none⟩), .pointer (some ⟨bb20, 0, none⟩), .pointer (some ⟨bb19, 0, none⟩)], .int .i64 3])] hF1 (by kernel_rfl) fun a1 hF1 => ?_
        refine wl (eN 16 28 (t := 106) (fun b => .pointer (some ⟨b, 0, none⟩)) #[.nilFunc, .int .i64 0] hF1 hM (by kernel_rfl) (fun _ => by kernel_rfl) fun bb24 a1 w hF1 hM => ?_)
        refine wl (sStore (i := 28) (off := 0) (cs' := #[.func (.func 59) #[] #[.pointer (some ⟨bb21, 0, none⟩), .pointer (some ⟨bb20, 0, none⟩), .pointer (some ⟨bb19, 0, none⟩)], .int .i64 3]) hF1 hM (by kernel_rfl) rfl rfl (by kernel_rfl) (by kernel_rfl) rfl (by kernel_rfl) fun w hM => ?_)
        refine wpList_nil ?_
        refine hK131 _ _ ?_
        refine wp_seq_k fun K132 hK132 => ?_
        refine wp_region_lit ?_
        refine sB 1 [(68, .pointer (some ⟨bb24, 0, none⟩))] hF1 (by kernel_rfl) fun a1 hF1 => ?_
        refine wl (eL 69 28 0 (v := .func (.func 59) #[] #[.pointer (some ⟨bb21, 0, none⟩), .pointer (some ⟨bb20, 0, none⟩), .pointer (some ⟨bb19, 0, none⟩)]) hF1 hM (by kernel_rfl) rfl rfl (by kernel_rfl) (by kernel_rfl) fun a1 w hF1 hM => ?_)
        refine wl (sC (f := 59) (args := #[.pointer (some ⟨bb21, 0, none⟩), .pointer (some ⟨bb20, 0, none⟩), .pointer (some ⟨bb19, 0, none⟩)]) hF1 (by kernel_rfl) rfl (by decide) (by kernel_rfl) (fun _ => by kernel_rfl) ?_)
        refine enterK 15 Try.func59 rfl rfl rfl ?_
        intro a2 hF2 QR133 hR133 hNR133
        refine wp_seq_k fun K134 hK134 => ?_
        refine wp_region_lit ?_
        refine sB 1 [(3, .bool false)] hF2 (by kernel_rfl) fun a2 hF2 => ?_
        refine wpList_nil ?_
        refine hK134 _ _ ?_
        refine wp_seq_k fun K135 hK135 => ?_
        have hln := fl_len (fl_p h0)
        have hvi := vi_bd hv
        by_cases hz14 : pe < 0
        ·skip
         have hln := fl_len (fl_p h0)
         have hvi := vi_bd hv
         refine wp_region_lit ?_
         refine wl (eL 4 25 0 (v := .int .i64 pe) hF2 hM (by kernel_rfl) rfl rfl (by kernel_rfl) (by kernel_rfl) fun a2 w hF2 hM => ?_)
         refine wl (eP 5 (v0 := .bool (decide (pe < 0))) (v := .bool true) hF2 (by kernel_rfl) (fun _ => by kernel_rfl) (bT hz14) fun a2 hF2 => ?_)
         refine sB 10 [(6, .bool true), (7, undef), (8, undef), (9, undef), (10, undef), (11, undef), (12, undef), (13, undef), (14, .bool true), (3, .bool true)] hF2 (by kernel_rfl) fun a2 hF2 => ?_
         refine wpList_nil ?_
         refine hK135 _ _ ?_
         refine wp_ret ?_
         refine hR133 _ _ ?_
         refine ret_of hF2 hM (.tmp rfl (.nil)) ⟨_, rfl, ?_⟩
         intro a1 hF1
         refine wpList_nil ?_
         refine hK132 _ _ ?_
         refine cT hF1 (by kernel_rfl) (by kernel_rfl) ?_
         refine wp_seq_k fun K136 hK136 => ?_
         refine wp_region_lit ?_
         refine sB 1 [(71, .pointer (some ⟨bb24, 1, none⟩))] hF1 (by kernel_rfl) fun a1 hF1 => ?_
         refine wl (eL 72 28 1 (v := .int .i64 3) hF1 hM (by kernel_rfl) rfl rfl (by kernel_rfl) (by kernel_rfl) fun a1 w hF1 hM => ?_)
         refine sB 1 [(14, .int .i64 3)] hF1 (by kernel_rfl) fun a1 hF1 => ?_
         refine wpList_nil ?_
         refine hK136 _ _ ?_
         refine wp_exit ?_
         refine hK116 _ _ ?_
         refine wp_seq_k fun K137 hK137 => ?_
         refine wp_seq_k fun K138 hK138 => ?_
         refine wp_region_lit ?_
         refine sB 1 [(74, .int .i64 3)] hF1 (by kernel_rfl) fun a1 hF1 => ?_
         refine wl (eP 75 (v0 := .bool (decide (3 = 0))) (v := .bool false) hF1 (by kernel_rfl) (fun _ => by kernel_rfl) (bF (by omega)) fun a1 hF1 => ?_)
         refine wpList_nil ?_
         refine hK138 _ _ ?_
         refine cF hF1 (by kernel_rfl) (by kernel_rfl) ?_
         refine wp_skip ?_
         refine hK137 _ _ ?_
         refine wp_seq_k fun K139 hK139 => ?_
         refine wp_region_lit ?_
         refine sB 2 [(88, .int .i64 3), (8, .int .i64 3)] hF1 (by kernel_rfl) fun a1 hF1 => ?_
         refine wpList_nil ?_
         refine hK139 _ _ ?_
         refine wp_ret ?_
         refine hR95 _ _ ?_
         refine ret_of hF1 hM (.tmp rfl (.nil)) ⟨_, rfl, ?_⟩
         intro a hF
         refine sB 1 [(14, .int .i64 3)] hF (by kernel_rfl) fun a hF => ?_
         refine wpList_nil ?_
         refine hK94 _ _ ?_
         refine wp_seq_k fun K140 hK140 => ?_
         refine wp_region_lit ?_
         refine sB 1 [(55, .pointer (some ⟨bb4, 0, none⟩))] hF (by kernel_rfl) fun a hF => ?_
         refine wl (eL 56 8 0 (v := .agg #[.slice A la.length ca, .slice A2 lq.length cq_, .int .i64 t, .slice A3 ls.length cs, .slice A4 lm.length cm]) hF hM (by kernel_rfl) rfl rfl (by kernel_rfl) (by kernel_rfl) fun a w hF hM => ?_)
         refine sB 1 [(57, .int .i64 3)] hF (by kernel_rfl) fun a hF => ?_
         refine wl (sStore (i := 7) (off := 0) (cs' := #[.slice A la.length ca, .slice A2 lq.length cq_, .int .i64 t, .slice A3 ls.length cs, .slice A4 lm.length cm]) hF hM (by kernel_rfl) rfl rfl (by kernel_rfl) (by kernel_rfl) rfl (by kernel_rfl) fun w hM => ?_)
         refine sB 2 [(9, .int .i64 3), (10, .int .i64 0)] hF (by kernel_rfl) fun a hF => ?_
         refine wpList_nil ?_
         refine hK140 _ _ ?_
         refine wp_ret ?_
         refine hR0 _ _ ?_
         refine ret_of hF hM (.cell (i := 7) rfl rfl (v := .agg #[.slice A la.length ca, .slice A2 lq.length cq_, .int .i64 t, .slice A3 ls.length cs, .slice A4 lm.length cm]) (by kernel_rfl) (.tmp rfl (.tmp rfl (.nil)))) ?_
         have e2 := e.symm.trans (show psR la lq ls lm port i1 i3 i4 t = (ls, lm, 3) from by unfold psR; rw [if_neg (show ¬ i3 ≤ 5 by omega)]; have hA : psA la ls port i1 i3 i4 t = (ls, 3) := by { unfold psA; rw [if_neg (show ¬ regI port i1 i3 la < 0 by omega), hkk, Int.toNat_natCast, if_neg hz11]; first | (rw [if_pos (by omega)]; done) | (rw [if_neg (by omega)]; first | (rw [if_pos (by omega)]; done) | (rw [if_neg (by omega)]; first | (rw [if_pos (by omega)]; done) | rw [if_neg (by omega), hpe])) }; rw [hA])
         have eq1 := (Prod.mk.inj e2).1
         have eq2 := (Prod.mk.inj (Prod.mk.inj e2).2).1
         have eq3 := (Prod.mk.inj (Prod.mk.inj e2).2).2
         clear e2 e
         subst eq1 eq2 eq3
         subst e3 e4
         exact ⟨_, _, _, _, rfl, hM.roSame (k := 3) rfl, hM.roSame (k := 4) rfl, hM.bel⟩
        ·skip
         have hln := fl_len (fl_p h0)
         have hvi := vi_bd hv
         refine wp_region_lit ?_
         refine wl (eL 4 25 0 (v := .int .i64 pe) hF2 hM (by kernel_rfl) rfl rfl (by kernel_rfl) (by kernel_rfl) fun a2 w hF2 hM => ?_)
         refine wl (eP 5 (v0 := .bool (decide (pe < 0))) (v := .bool false) hF2 (by kernel_rfl) (fun _ => by kernel_rfl) (bF hz14) fun a2 hF2 => ?_)
         refine sB 1 [(6, .bool false)] hF2 (by kernel_rfl) fun a2 hF2 => ?_
         refine wl (eL 7 24 0 (v := .int .i64 io) hF2 hM (by kernel_rfl) rfl rfl (by kernel_rfl) (by kernel_rfl) fun a2 w hF2 hM => ?_)
         refine sB 1 [(8, .pointer (some ⟨bb19, 6, none⟩))] hF2 (by kernel_rfl) fun a2 hF2 => ?_
         refine wl (eL 9 23 6 (v := .int .i64 (rc la kk 6)) hF2 hM (by kernel_rfl) rfl rfl (by kernel_rfl) (by kernel_rfl) fun a2 w hF2 hM => ?_)
         refine sB 1 [(10, .pointer (some ⟨bb19, 5, none⟩))] hF2 (by kernel_rfl) fun a2 hF2 => ?_
         refine wl (eL 11 23 5 (v := .int .i64 (rc la kk 5)) hF2 hM (by kernel_rfl) rfl rfl (by kernel_rfl) (by kernel_rfl) fun a2 w hF2 hM => ?_)
         refine wl (eP 12 (v0 := .int .i64 (IntKind.i64.wrap (rc la kk 6 - rc la kk 5))) (v := .int .i64 (rc la kk 6 - rc la kk 5)) hF2 (by kernel_rfl) (fun _ => by kernel_rfl) (wi (by omega)) fun a2 hF2 => ?_)
         refine sB 3 [(13, .bool (decide (rc la kk 6 - rc la kk 5 < io))), (14, .bool (decide (rc la kk 6 - rc la kk 5 < io))), (3, .bool (decide (rc la kk 6 - rc la kk 5 < io)))] hF2 (by kernel_rfl) fun a2 hF2 => ?_
         refine wpList_nil ?_
         refine hK135 _ _ ?_
         refine wp_ret ?_
         refine hR133 _ _ ?_
         refine ret_of hF2 hM (.tmp rfl (.nil)) ⟨_, rfl, ?_⟩
         intro a1 hF1
         refine wpList_nil ?_
         refine hK132 _ _ ?_
         by_cases hz15 : rc la kk 6 - rc la kk 5 < io
         ·skip
          replace hF1 := hF1.c hF1 (i := 70) (v := .bool true) rfl (bT hz15)
          refine cT hF1 (by kernel_rfl) (by kernel_rfl) ?_
          refine wp_seq_k fun K141 hK141 => ?_
          refine wp_region_lit ?_
          refine sB 1 [(71, .pointer (some ⟨bb24, 1, none⟩))] hF1 (by kernel_rfl) fun a1 hF1 => ?_
          refine wl (eL 72 28 1 (v := .int .i64 3) hF1 hM (by kernel_rfl) rfl rfl (by kernel_rfl) (by kernel_rfl) fun a1 w hF1 hM => ?_)
          refine sB 1 [(14, .int .i64 3)] hF1 (by kernel_rfl) fun a1 hF1 => ?_
          refine wpList_nil ?_
          refine hK141 _ _ ?_
          refine wp_exit ?_
          refine hK116 _ _ ?_
          refine wp_seq_k fun K142 hK142 => ?_
          refine wp_seq_k fun K143 hK143 => ?_
          refine wp_region_lit ?_
          refine sB 1 [(74, .int .i64 3)] hF1 (by kernel_rfl) fun a1 hF1 => ?_
          refine wl (eP 75 (v0 := .bool (decide (3 = 0))) (v := .bool false) hF1 (by kernel_rfl) (fun _ => by kernel_rfl) (bF (by omega)) fun a1 hF1 => ?_)
          refine wpList_nil ?_
          refine hK143 _ _ ?_
          refine cF hF1 (by kernel_rfl) (by kernel_rfl) ?_
          refine wp_skip ?_
          refine hK142 _ _ ?_
          refine wp_seq_k fun K144 hK144 => ?_
          refine wp_region_lit ?_
          refine sB 2 [(88, .int .i64 3), (8, .int .i64 3)] hF1 (by kernel_rfl) fun a1 hF1 => ?_
          refine wpList_nil ?_
          refine hK144 _ _ ?_
          refine wp_ret ?_
          refine hR95 _ _ ?_
          refine ret_of hF1 hM (.tmp rfl (.nil)) ⟨_, rfl, ?_⟩
          intro a hF
          refine sB 1 [(14, .int .i64 3)] hF (by kernel_rfl) fun a hF => ?_
          refine wpList_nil ?_
          refine hK94 _ _ ?_
          refine wp_seq_k fun K145 hK145 => ?_
          refine wp_region_lit ?_
          refine sB 1 [(55, .pointer (some ⟨bb4, 0, none⟩))] hF (by kernel_rfl) fun a hF => ?_
          refine wl (eL 56 8 0 (v := .agg #[.slice A la.length ca, .slice A2 lq.length cq_, .int .i64 t, .slice A3 ls.length cs, .slice A4 lm.length cm]) hF hM (by kernel_rfl) rfl rfl (by kernel_rfl) (by kernel_rfl) fun a w hF hM => ?_)
          refine sB 1 [(57, .int .i64 3)] hF (by kernel_rfl) fun a hF => ?_
          refine wl (sStore (i := 7) (off := 0) (cs' := #[.slice A la.length ca, .slice A2 lq.length cq_, .int .i64 t, .slice A3 ls.length cs, .slice A4 lm.length cm]) hF hM (by kernel_rfl) rfl rfl (by kernel_rfl) (by kernel_rfl) rfl (by kernel_rfl) fun w hM => ?_)
          refine sB 2 [(9, .int .i64 3), (10, .int .i64 0)] hF (by kernel_rfl) fun a hF => ?_
          refine wpList_nil ?_
          refine hK145 _ _ ?_
          refine wp_ret ?_
          refine hR0 _ _ ?_
          refine ret_of hF hM (.cell (i := 7) rfl rfl (v := .agg #[.slice A la.length ca, .slice A2 lq.length cq_, .int .i64 t, .slice A3 ls.length cs, .slice A4 lm.length cm]) (by kernel_rfl) (.tmp rfl (.tmp rfl (.nil)))) ?_
          have e2 := e.symm.trans (show psR la lq ls lm port i1 i3 i4 t = (ls, lm, 3) from by unfold psR; rw [if_neg (show ¬ i3 ≤ 5 by omega)]; have hA : psA la ls port i1 i3 i4 t = (ls, 3) := by { unfold psA; rw [if_neg (show ¬ regI port i1 i3 la < 0 by omega), hkk, Int.toNat_natCast, if_neg hz11]; first | (rw [if_pos (by omega)]; done) | (rw [if_neg (by omega)]; first | (rw [if_pos (by omega)]; done) | (rw [if_neg (by omega)]; first | (rw [if_pos (by omega)]; done) | rw [if_neg (by omega), hpe])) }; rw [hA])
          have eq1 := (Prod.mk.inj e2).1
          have eq2 := (Prod.mk.inj (Prod.mk.inj e2).2).1
          have eq3 := (Prod.mk.inj (Prod.mk.inj e2).2).2
          clear e2 e
          subst eq1 eq2 eq3
          subst e3 e4
          exact ⟨_, _, _, _, rfl, hM.roSame (k := 3) rfl, hM.roSame (k := 4) rfl, hM.bel⟩
         ·skip
          replace hF1 := hF1.c hF1 (i := 70) (v := .bool false) rfl (bF hz15)
          refine cF hF1 (by kernel_rfl) (by kernel_rfl) ?_
          refine wp_skip ?_
          refine hK130 _ _ ?_
          refine wp_region_lit ?_
          refine wl (eP 73 (v0 := .int .i64 (IntKind.i64.wrap (1 + 1))) (v := .int .i64 2) hF1 (by kernel_rfl) (fun _ => by kernel_rfl) (vi (by decide)) fun a1 hF1 => ?_)
          refine sB 1 [(65, .int .i64 2)] hF1 (by kernel_rfl) fun a1 hF1 => ?_
          refine wpList_nil ?_
          refine hK127 _ _ ?_
          refine rounds_k fun K146 hK146 => ?_
          refine wp_seq_k fun K147 hK147 => ?_
          refine wp_region_lit ?_
          refine wl (eP 66 (v0 := .bool (decide (2 < 3))) (v := .bool true) hF1 (by kernel_rfl) (fun _ => by kernel_rfl) (bT (by omega)) fun a1 hF1 => ?_)
          refine wpList_nil ?_
          refine hK147 _ _ ?_
          refine wp_seq_k fun K148 hK148 => ?_
          refine cT hF1 (by kernel_rfl) (by kernel_rfl) ?_
          refine wp_skip ?_
          refine hK148 _ _ ?_
          refine wp_seq_k fun K149 hK149 => ?_
          refine wp_block ?_
          refine wp_seq_k fun K150 hK150 => ?_
          refine wp_region_lit ?_
          refine sB 1 [(67, .agg #[.func (.func 60) #[] #[.pointer (some ⟨bb21, 0, none⟩), .pointer (some ⟨bb16, 0, none⟩), .pointer (some ⟨bb18, 0, none⟩)], .int .i64 4])] hF1 (by kernel_rfl) fun a1 hF1 => ?_
          refine wl (eN 16 29 (t := 106) (fun b => .pointer (some ⟨b, 0, none⟩)) #[.nilFunc, .int .i64 0] hF1 hM (by kernel_rfl) (fun _ => by kernel_rfl) fun bb25 a1 w hF1 hM => ?_)
          refine wl (sStore (i := 29) (off := 0) (cs' := #[.func (.func 60) #[] #[.pointer (some ⟨bb21, 0, none⟩), .pointer (some ⟨bb16, 0, none⟩), .pointer (some ⟨bb18, 0, none⟩)], .int .i64 4]) hF1 hM (by kernel_rfl) rfl rfl (by kernel_rfl) (by kernel_rfl) rfl (by kernel_rfl) fun w hM => ?_)
          refine wpList_nil ?_
          refine hK150 _ _ ?_
          refine wp_seq_k fun K151 hK151 => ?_
          refine wp_region_lit ?_
          refine sB 1 [(68, .pointer (some ⟨bb25, 0, none⟩))] hF1 (by kernel_rfl) fun a1 hF1 => ?_
          refine wl (eL 69 29 0 (v := .func (.func 60) #[] #[.pointer (some ⟨bb21, 0, none⟩), .pointer (some ⟨bb16, 0, none⟩), .pointer (some ⟨bb18, 0, none⟩)]) hF1 hM (by kernel_rfl) rfl rfl (by kernel_rfl) (by kernel_rfl) fun a1 w hF1 hM => ?_)
          refine wl (sC (f := 60) (args := #[.pointer (some ⟨bb21, 0, none⟩), .pointer (some ⟨bb16, 0, none⟩), .pointer (some ⟨bb18, 0, none⟩)]) hF1 (by kernel_rfl) rfl (by decide) (by kernel_rfl) (fun _ => by kernel_rfl) ?_)
          refine enterK 14 Try.func60 rfl rfl rfl ?_
          intro a2 hF2 QR152 hR152 hNR152
          refine wp_seq_k fun K153 hK153 => ?_
          refine wp_region_lit ?_
          refine sB 1 [(3, .bool false)] hF2 (by kernel_rfl) fun a2 hF2 => ?_
          refine wpList_nil ?_
          refine hK153 _ _ ?_
          refine wp_seq_k fun K154 hK154 => ?_
          have hln := fl_len (fl_p h0)
          have hvi := vi_bd hv
          refine rQ hM (by kernel_rfl) (by kernel_rfl) ?_
          refine eQL 4 25 0 (v := .int .i64 pe) hF2 (by kernel_rfl) rfl rfl (by kernel_rfl) (by kernel_rfl) fun a2 hF2 => ?_
          refine eQL 5 20 0 (v := .pointer (some ⟨bb4, 0, none⟩)) hF2 (by kernel_rfl) rfl rfl (by kernel_rfl) (by kernel_rfl) fun a2 hF2 => ?_
          refine eQ 6 (v0 := .pointer (some ⟨bb4, 0, none⟩)) (v := .pointer (some ⟨bb4, 0, none⟩)) hF2 (by kernel_rfl) (fun _ => by kernel_rfl) rfl fun a2 hF2 => ?_
          refine eQ 7 (v0 := .pointer (some ⟨bb4, 0, none⟩)) (v := .pointer (some ⟨bb4, 0, none⟩)) hF2 (by kernel_rfl) (fun _ => by kernel_rfl) rfl fun a2 hF2 => ?_
          refine eQ 8 (v0 := .pointer (some ⟨bb4, 3, none⟩)) (v := .pointer (some ⟨bb4, 3, none⟩)) hF2 (by kernel_rfl) (fun _ => by kernel_rfl) rfl fun a2 hF2 => ?_
          refine eQL 9 8 3 (v := .slice A3 ls.length cs) hF2 (by kernel_rfl) rfl rfl (by kernel_rfl) (by kernel_rfl) fun a2 hF2 => ?_
          refine eQL 10 22 0 (v := .int .i64 (kk : Int)) hF2 (by kernel_rfl) rfl rfl (by kernel_rfl) (by kernel_rfl) fun a2 hF2 => ?_
          refine eQ2 11 (v := .pointer (some (ea A3 (kk)))) hF2 (by kernel_rfl) (yld_ix (kd := .i64) (e := 3) (len := ls.length) (cap := cs) (i := (kk : Int)) (size := 1) (A := A3) hF2 rfl (by kernel_rfl) (by kernel_rfl) (by kernel_rfl) (by kernel_rfl) (by kernel_rfl) (roK 3 rfl) (by omega) (by omega) (by rw [List.length_map]; omega)) fun a2 hF2 => ?_
          refine eQ2 12 (v := .int .i64 (nt ls kk)) hF2 (by kernel_rfl) (yld_ro1 (A := A3) (j := kk) hF2 rfl (by kernel_rfl) (by kernel_rfl) (roK 3 rfl) (by kernel_rfl) (nt_at (by omega))) fun a2 hF2 => ?_
          refine eQ 13 (v0 := .bool (decide (pe ≤ nt ls kk))) (v := .bool (decide (pe ≤ nt ls kk))) hF2 (by kernel_rfl) (fun _ => by kernel_rfl) rfl fun a2 hF2 => ?_
          refine eQ 3 (v0 := .bool (decide (pe ≤ nt ls kk))) (v := .bool (decide (pe ≤ nt ls kk))) hF2 (by kernel_rfl) (fun _ => by kernel_rfl) rfl fun a2 hF2 => ?_
          refine wpQuiet_nil ?_
          intro w hM
          refine hK154 _ _ ?_
          refine wp_ret ?_
          refine hR152 _ _ ?_
          refine ret_of hF2 hM (.tmp rfl (.nil)) ⟨_, rfl, ?_⟩
          intro a1 hF1
          refine wpList_nil ?_
          refine hK151 _ _ ?_
          by_cases hz16 : pe ≤ nt ls kk
          ·skip
           replace hF1 := hF1.c hF1 (i := 70) (v := .bool true) rfl (bT hz16)
           refine cT hF1 (by kernel_rfl) (by kernel_rfl) ?_
           refine wp_seq_k fun K155 hK155 => ?_
           refine wp_region_lit ?_
           refine sB 1 [(71, .pointer (some ⟨bb25, 1, none⟩))] hF1 (by kernel_rfl) fun a1 hF1 => ?_
           refine wl (eL 72 29 1 (v := .int .i64 4) hF1 hM (by kernel_rfl) rfl rfl (by kernel_rfl) (by kernel_rfl) fun a1 w hF1 hM => ?_)
           refine sB 1 [(14, .int .i64 4)] hF1 (by kernel_rfl) fun a1 hF1 => ?_
           refine wpList_nil ?_
           refine hK155 _ _ ?_
           refine wp_exit ?_
           refine hK116 _ _ ?_
           refine wp_seq_k fun K156 hK156 => ?_
           refine wp_seq_k fun K157 hK157 => ?_
           refine wp_region_lit ?_
           refine sB 1 [(74, .int .i64 4)] hF1 (by kernel_rfl) fun a1 hF1 => ?_
           refine wl (eP 75 (v0 := .bool (decide (4 = 0))) (v := .bool false) hF1 (by kernel_rfl) (fun _ => by kernel_rfl) (bF (by omega)) fun a1 hF1 => ?_)
           refine wpList_nil ?_
           refine hK157 _ _ ?_
           refine cF hF1 (by kernel_rfl) (by kernel_rfl) ?_
           refine wp_skip ?_
           refine hK156 _ _ ?_
           refine wp_seq_k fun K158 hK158 => ?_
           refine wp_region_lit ?_
           refine sB 2 [(88, .int .i64 4), (8, .int .i64 4)] hF1 (by kernel_rfl) fun a1 hF1 => ?_
           refine wpList_nil ?_
           refine hK158 _ _ ?_
           refine wp_ret ?_
           refine hR95 _ _ ?_
           refine ret_of hF1 hM (.tmp rfl (.nil)) ⟨_, rfl, ?_⟩
           intro a hF
           refine sB 1 [(14, .int .i64 4)] hF (by kernel_rfl) fun a hF => ?_
           refine wpList_nil ?_
           refine hK94 _ _ ?_
           refine wp_seq_k fun K159 hK159 => ?_
           refine wp_region_lit ?_
           refine sB 1 [(55, .pointer (some ⟨bb4, 0, none⟩))] hF (by kernel_rfl) fun a hF => ?_
           refine wl (eL 56 8 0 (v := .agg #[.slice A la.length ca, .slice A2 lq.length cq_, .int .i64 t, .slice A3 ls.length cs, .slice A4 lm.length cm]) hF hM (by kernel_rfl) rfl rfl (by kernel_rfl) (by kernel_rfl) fun a w hF hM => ?_)
           refine sB 1 [(57, .int .i64 4)] hF (by kernel_rfl) fun a hF => ?_
           refine wl (sStore (i := 7) (off := 0) (cs' := #[.slice A la.length ca, .slice A2 lq.length cq_, .int .i64 t, .slice A3 ls.length cs, .slice A4 lm.length cm]) hF hM (by kernel_rfl) rfl rfl (by kernel_rfl) (by kernel_rfl) rfl (by kernel_rfl) fun w hM => ?_)
           refine sB 2 [(9, .int .i64 4), (10, .int .i64 0)] hF (by kernel_rfl) fun a hF => ?_
           refine wpList_nil ?_
           refine hK159 _ _ ?_
           refine wp_ret ?_
           refine hR0 _ _ ?_
           refine ret_of hF hM (.cell (i := 7) rfl rfl (v := .agg #[.slice A la.length ca, .slice A2 lq.length cq_, .int .i64 t, .slice A3 ls.length cs, .slice A4 lm.length cm]) (by kernel_rfl) (.tmp rfl (.tmp rfl (.nil)))) ?_
           have e2 := e.symm.trans (show psR la lq ls lm port i1 i3 i4 t = (ls, lm, 4) from by unfold psR; rw [if_neg (show ¬ i3 ≤ 5 by omega)]; have hA : psA la ls port i1 i3 i4 t = (ls, 4) := by { unfold psA; rw [if_neg (show ¬ regI port i1 i3 la < 0 by omega), hkk, Int.toNat_natCast, if_neg hz11]; first | (rw [if_pos (by omega)]; done) | (rw [if_neg (by omega)]; first | (rw [if_pos (by omega)]; done) | (rw [if_neg (by omega)]; first | (rw [if_pos (by omega)]; done) | rw [if_neg (by omega), hpe])) }; rw [hA])
           have eq1 := (Prod.mk.inj e2).1
           have eq2 := (Prod.mk.inj (Prod.mk.inj e2).2).1
           have eq3 := (Prod.mk.inj (Prod.mk.inj e2).2).2
           clear e2 e
           subst eq1 eq2 eq3
           subst e3 e4
           exact ⟨_, _, _, _, rfl, hM.roSame (k := 3) rfl, hM.roSame (k := 4) rfl, hM.bel⟩
          ·skip
           replace hF1 := hF1.c hF1 (i := 70) (v := .bool false) rfl (bF hz16)
           refine cF hF1 (by kernel_rfl) (by kernel_rfl) ?_
           refine wp_skip ?_
           refine hK149 _ _ ?_
           refine wp_region_lit ?_
           refine wl (eP 73 (v0 := .int .i64 (IntKind.i64.wrap (2 + 1))) (v := .int .i64 3) hF1 (by kernel_rfl) (fun _ => by kernel_rfl) (vi (by decide)) fun a1 hF1 => ?_)
           refine sB 1 [(65, .int .i64 3)] hF1 (by kernel_rfl) fun a1 hF1 => ?_
           refine wpList_nil ?_
           refine hK146 _ _ ?_
           refine rounds_k fun K160 hK160 => ?_
           refine wp_seq_k fun K161 hK161 => ?_
           refine wp_region_lit ?_
           refine wl (eP 66 (v0 := .bool (decide (3 < 3))) (v := .bool false) hF1 (by kernel_rfl) (fun _ => by kernel_rfl) (bF (by omega)) fun a1 hF1 => ?_)
           refine wpList_nil ?_
           refine hK161 _ _ ?_
           refine wp_seq_k fun K162 hK162 => ?_
           refine cF hF1 (by kernel_rfl) (by kernel_rfl) ?_
           refine wp_exit ?_
           refine hK116 _ _ ?_
           refine wp_seq_k fun K163 hK163 => ?_
           refine wp_seq_k fun K164 hK164 => ?_
           refine wp_region_lit ?_
           refine sB 1 [(74, .int .i64 0)] hF1 (by kernel_rfl) fun a1 hF1 => ?_
           refine wl (eP 75 (v0 := .bool (decide (0 = 0))) (v := .bool true) hF1 (by kernel_rfl) (fun _ => by kernel_rfl) (bT (by omega)) fun a1 hF1 => ?_)
           refine wpList_nil ?_
           refine hK164 _ _ ?_
           refine cT hF1 (by kernel_rfl) (by kernel_rfl) ?_
           refine rF (by kernel_rfl) (by kernel_rfl) (fun S a w => ∃ AA26 : Option Addr, ∃ cc26 : Nat, Fr 89 [(4, some (.pointer (some ⟨bb16, 0, none⟩))), (8, some (.int .i64 0)), (9, some (.pointer (some ⟨bb18, 0, none⟩))), (12, some (.pointer (some ⟨bb21, 0, none⟩))), (14, some (.int .i64 0)), (76, (cond (S.getD 0 false) (some (.pointer (some ⟨bb4, 0, none⟩))) none)), (77, (cond (S.getD 1 false) (some (.pointer (some ⟨bb4, 0, none⟩))) none)), (78, (cond (S.getD 2 false) (some (.pointer (some ⟨bb4, 0, none⟩))) none)), (79, (cond (S.getD 3 false) (some (.pointer (some ⟨bb4, 0, none⟩))) none)), (80, (cond (S.getD 4 false) (some (.pointer (some ⟨bb4, 3, none⟩))) none)), (81, (cond (S.getD 5 false) (some (.slice A3 ls.length cs)) none)), (82, (cond (S.getD 6 false) (some (.int .i64 (kk : Int))) none)), (83, (cond (S.getD 7 false) (some (.int .i64 pe)) none)), (84, (cond (S.getD 8 false) (some (.slice AA26 ls.length cc26)) none)), (85, (cond (S.getD 9 false) (some (.pointer (some ⟨bb4, 0, none⟩))) none)), (86, (cond (S.getD 10 false) (some (.pointer (some ⟨bb4, 0, none⟩))) none)), (87, (cond (S.getD 11 false) (some (.pointer (some ⟨bb4, 3, none⟩))) none))] a ∧ Mem w0.heap.size w0 [(1, some (.ro A (flatR la))), (2, some (.ro A2 (flatR lq))), (3, some (.ro A3 (ls.map (Value.int .i64)))), (4, some (.ro A4 (flatR lm))), (5, some (.row bb1 27 #[.slice A la.length ca, .slice A2 lq.length cq_, .int .i64 now, .slice A3 ls.length cs, .slice A4 lm.length cm])), (6, some (.row bb2 39 #[.int .i64 i1, .int .i64 i2, .int .i64 i3, .int .i64 i4, .int .i64 i5])), (7, some (.row bb3 27 #[.slice none 0 0, .slice none 0 0, .int .i64 0, .slice none 0 0, .slice none 0 0])), (8, (cond (S.getD 12 false) (some (.row bb4 85 #[.slice A la.length ca, .slice A2 lq.length cq_, .int .i64 t, .slice AA26 ls.length cc26, .slice A4 lm.length cm])) (some (.row bb4 85 #[.slice A la.length ca, .slice A2 lq.length cq_, .int .i64 t, .slice A3 ls.length cs, .slice A4 lm.length cm])))), (20, some (.row bb16 103 #[.pointer (some ⟨bb4, 0, none⟩)])), (22, some (.row bb18 3 #[.int .i64 (kk : Int)])), (25, some (.row bb21 3 #[.int .i64 pe])), (30, (cond (S.getD 8 false) (some (.own (.slice AA26 ls.length cc26) 3 1 ls.length (((ls).set kk pe).map (Value.int .i64)))) none))] w) ?_ ?_ ?_
           ·exact ⟨none, 0, ((((((((((((((((((Fr.nil hF1).co hF1 (i := 87) (by kernel_rfl)).co hF1 (i := 86) (by kernel_rfl)).co hF1 (i := 85) (by kernel_rfl)).co hF1 (i := 84) (by kernel_rfl)).co hF1 (i := 83) (by kernel_rfl)).co hF1 (i := 82) (by kernel_rfl)).co hF1 (i := 81) (by kernel_rfl)).co hF1 (i := 80) (by kernel_rfl)).co hF1 (i := 79) (by kernel_rfl)).co hF1 (i := 78) (by kernel_rfl)).co hF1 (i := 77) (by kernel_rfl)).co hF1 (i := 76) (by kernel_rfl)).co hF1 (i := 14) (by kernel_rfl)).co hF1 (i := 12) (by kernel_rfl)).co hF1 (i := 9) (by kernel_rfl)).co hF1 (i := 8) (by kernel_rfl)).co hF1 (i := 4) (by kernel_rfl)), hM.drew.sub ((((((((((((Sub.nil.co (k := 30) (by kernel_rfl)).co (k := 25) (by kernel_rfl)).co (k := 22) (by kernel_rfl)).co (k := 20) (by kernel_rfl)).co (k := 8) (by kernel_rfl)).co (k := 7) (by kernel_rfl)).co (k := 6) (by kernel_rfl)).co (k := 5) (by kernel_rfl)).co (k := 4) (by kernel_rfl)).co (k := 3) (by kernel_rfl)).co (k := 2) (by kernel_rfl)).co (k := 1) (by kernel_rfl))⟩
           ·refine stC ?_ (stC ?_ (stC ?_ (stC ?_ (stC ?_ (stC ?_ (stC ?_ (stC ?_ (stC ?_ (stC ?_ (stC ?_ (stC ?_ (stC ?_ (trivial)))))))))))))
            ·intro s0 s1 s2 s3 s4 s5 s6 s7 s8 s9 s10 s11 s12 hc hi hp a w hS
             obtain rfl : s0 = false := hi
             obtain rfl : s12 = false := hc.f 12 0 (by kernel_rfl) rfl
             obtain ⟨AA26, cc26, hF1, hM⟩ := hS
             refine eL 76 20 0 (v := .pointer (some ⟨bb4, 0, none⟩)) hF1 hM (by kernel_rfl) rfl rfl (by kernel_rfl) (by kernel_rfl) fun a1 w hF1 hM => ?_
             exact ⟨AA26, cc26, ((hF1.repl 5 (by kernel_rfl)).cast (by kernel_rfl)), (hM.cast (by kernel_rfl))⟩
            ·intro s0 s1 s2 s3 s4 s5 s6 s7 s8 s9 s10 s11 s12 hc hi hp a w hS
             obtain rfl : s1 = false := hi
             obtain rfl : s12 = false := hc.f 12 1 (by kernel_rfl) rfl
             obtain ⟨AA26, cc26, hF1, hM⟩ := hS
             refine eL 77 20 0 (v := .pointer (some ⟨bb4, 0, none⟩)) hF1 hM (by kernel_rfl) rfl rfl (by kernel_rfl) (by kernel_rfl) fun a1 w hF1 hM => ?_
             exact ⟨AA26, cc26, ((hF1.repl 6 (by kernel_rfl)).cast (by kernel_rfl)), (hM.cast (by kernel_rfl))⟩
            ·intro s0 s1 s2 s3 s4 s5 s6 s7 s8 s9 s10 s11 s12 hc hi hp a w hS
             obtain rfl : s2 = false := hi
             obtain rfl : s1 = true := hp 1 (by kernel_rfl)
             obtain rfl : s12 = false := hc.f 12 2 (by kernel_rfl) rfl
             obtain ⟨AA26, cc26, hF1, hM⟩ := hS
             refine eP 78 (v0 := .pointer (some ⟨bb4, 0, none⟩)) (v := .pointer (some ⟨bb4, 0, none⟩)) hF1 (by kernel_rfl) (fun _ => by kernel_rfl) rfl fun a1 hF1 => ?_
             exact ⟨AA26, cc26, ((hF1.repl 7 (by kernel_rfl)).cast (by kernel_rfl)), (hM.cast (by kernel_rfl))⟩
            ·intro s0 s1 s2 s3 s4 s5 s6 s7 s8 s9 s10 s11 s12 hc hi hp a w hS
             obtain rfl : s3 = false := hi
             obtain rfl : s2 = true := hp 2 (by kernel_rfl)
             obtain rfl : s12 = false := hc.f 12 3 (by kernel_rfl) rfl
             obtain ⟨AA26, cc26, hF1, hM⟩ := hS
             refine eP 79 (v0 := .pointer (some ⟨bb4, 0, none⟩)) (v := .pointer (some ⟨bb4, 0, none⟩)) hF1 (by kernel_rfl) (fun _ => by kernel_rfl) rfl fun a1 hF1 => ?_
             exact ⟨AA26, cc26, ((hF1.repl 8 (by kernel_rfl)).cast (by kernel_rfl)), (hM.cast (by kernel_rfl))⟩
            ·intro s0 s1 s2 s3 s4 s5 s6 s7 s8 s9 s10 s11 s12 hc hi hp a w hS
             obtain rfl : s4 = false := hi
             obtain rfl : s3 = true := hp 3 (by kernel_rfl)
             obtain rfl : s12 = false := hc.f 12 4 (by kernel_rfl) rfl
             obtain ⟨AA26, cc26, hF1, hM⟩ := hS
             refine eP 80 (v0 := .pointer (some ⟨bb4, 3, none⟩)) (v := .pointer (some ⟨bb4, 3, none⟩)) hF1 (by kernel_rfl) (fun _ => by kernel_rfl) rfl fun a1 hF1 => ?_
             exact ⟨AA26, cc26, ((hF1.repl 9 (by kernel_rfl)).cast (by kernel_rfl)), (hM.cast (by kernel_rfl))⟩
            ·intro s0 s1 s2 s3 s4 s5 s6 s7 s8 s9 s10 s11 s12 hc hi hp a w hS
             obtain rfl : s5 = false := hi
             obtain rfl : s4 = true := hp 4 (by kernel_rfl)
             obtain rfl : s12 = false := hc.f 12 5 (by kernel_rfl) rfl
             obtain ⟨AA26, cc26, hF1, hM⟩ := hS
             refine eL 81 8 3 (v := .slice A3 ls.length cs) hF1 hM (by kernel_rfl) rfl rfl (by kernel_rfl) (by kernel_rfl) fun a1 w hF1 hM => ?_
             exact ⟨AA26, cc26, ((hF1.repl 10 (by kernel_rfl)).cast (by kernel_rfl)), (hM.cast (by kernel_rfl))⟩
            ·intro s0 s1 s2 s3 s4 s5 s6 s7 s8 s9 s10 s11 s12 hc hi hp a w hS
             obtain rfl : s6 = false := hi
             obtain ⟨AA26, cc26, hF1, hM⟩ := hS
             refine eL 82 22 0 (v := .int .i64 (kk : Int)) hF1 hM (by kernel_rfl) rfl rfl (by kernel_rfl) (by kernel_rfl) fun a1 w hF1 hM => ?_
             exact ⟨AA26, cc26, ((hF1.repl 11 (by kernel_rfl)).cast (by kernel_rfl)), (hM.cast (by kernel_rfl))⟩
            ·intro s0 s1 s2 s3 s4 s5 s6 s7 s8 s9 s10 s11 s12 hc hi hp a w hS
             obtain rfl : s7 = false := hi
             obtain ⟨AA26, cc26, hF1, hM⟩ := hS
             refine eL 83 25 0 (v := .int .i64 pe) hF1 hM (by kernel_rfl) rfl rfl (by kernel_rfl) (by kernel_rfl) fun a1 w hF1 hM => ?_
             exact ⟨AA26, cc26, ((hF1.repl 12 (by kernel_rfl)).cast (by kernel_rfl)), (hM.cast (by kernel_rfl))⟩
            ·intro s0 s1 s2 s3 s4 s5 s6 s7 s8 s9 s10 s11 s12 hc hi hp a w hS
             obtain rfl : s8 = false := hi
             obtain rfl : s7 = true := hp 7 (by kernel_rfl)
             obtain rfl : s6 = true := hp 6 (by kernel_rfl)
             obtain rfl : s5 = true := hp 5 (by kernel_rfl)
             obtain rfl : s12 = false := hc.f 12 8 (by kernel_rfl) rfl
             obtain ⟨AA26, cc26, hF1, hM⟩ := hS
             refine sOwn 30 (f := 61) (args := #[.slice A3 ls.length cs, .int .i64 (kk : Int), .int .i64 pe]) (mk := (fun v => v)) (e := 3) (size := 1) (m := ls.length) (xs := (((ls).set kk pe).map (Value.int .i64))) hF1 hM (by kernel_rfl) rfl (by decide) (by kernel_rfl) (fun _ => by kernel_rfl) (replI_w A3 ls cs kk pe w (hM.ok 3 _ rfl) (by omega) (by omega)) fun AA26 cc26 a1 w hF1 hM => ?_
             exact ⟨AA26, cc26, ((hF1.repl 13 (by kernel_rfl)).cast (by kernel_rfl)), ((hM.repl 11 (by kernel_rfl)).cast (by kernel_rfl))⟩
            ·intro s0 s1 s2 s3 s4 s5 s6 s7 s8 s9 s10 s11 s12 hc hi hp a w hS
             obtain rfl : s9 = false := hi
             obtain rfl : s0 = true := hp 0 (by kernel_rfl)
             obtain rfl : s10 = false := hc.f 10 9 (by kernel_rfl) rfl
             obtain rfl : s11 = false := hc.f 11 10 (by kernel_rfl) rfl
             obtain rfl : s12 = false := hc.f 12 11 (by kernel_rfl) rfl
             obtain ⟨AA26, cc26, hF1, hM⟩ := hS
             refine eP 85 (v0 := .pointer (some ⟨bb4, 0, none⟩)) (v := .pointer (some ⟨bb4, 0, none⟩)) hF1 (by kernel_rfl) (fun _ => by kernel_rfl) rfl fun a1 hF1 => ?_
             exact ⟨AA26, cc26, ((hF1.repl 14 (by kernel_rfl)).cast (by kernel_rfl)), (hM.cast (by kernel_rfl))⟩
            ·intro s0 s1 s2 s3 s4 s5 s6 s7 s8 s9 s10 s11 s12 hc hi hp a w hS
             obtain rfl : s10 = false := hi
             obtain rfl : s9 = true := hp 9 (by kernel_rfl)
             obtain rfl : s11 = false := hc.f 11 10 (by kernel_rfl) rfl
             obtain rfl : s12 = false := hc.f 12 11 (by kernel_rfl) rfl
             obtain ⟨AA26, cc26, hF1, hM⟩ := hS
             refine eP 86 (v0 := .pointer (some ⟨bb4, 0, none⟩)) (v := .pointer (some ⟨bb4, 0, none⟩)) hF1 (by kernel_rfl) (fun _ => by kernel_rfl) rfl fun a1 hF1 => ?_
             exact ⟨AA26, cc26, ((hF1.repl 15 (by kernel_rfl)).cast (by kernel_rfl)), (hM.cast (by kernel_rfl))⟩
            ·intro s0 s1 s2 s3 s4 s5 s6 s7 s8 s9 s10 s11 s12 hc hi hp a w hS
             obtain rfl : s11 = false := hi
             obtain rfl : s10 = true := hp 10 (by kernel_rfl)
             obtain rfl : s12 = false := hc.f 12 11 (by kernel_rfl) rfl
             obtain ⟨AA26, cc26, hF1, hM⟩ := hS
             refine eP 87 (v0 := .pointer (some ⟨bb4, 3, none⟩)) (v := .pointer (some ⟨bb4, 3, none⟩)) hF1 (by kernel_rfl) (fun _ => by kernel_rfl) rfl fun a1 hF1 => ?_
             exact ⟨AA26, cc26, ((hF1.repl 16 (by kernel_rfl)).cast (by kernel_rfl)), (hM.cast (by kernel_rfl))⟩
            ·intro s0 s1 s2 s3 s4 s5 s6 s7 s8 s9 s10 s11 s12 hc hi hp a w hS
             obtain rfl : s12 = false := hi
             obtain rfl : s11 = true := hp 11 (by kernel_rfl)
             obtain rfl : s8 = true := hp 8 (by kernel_rfl)
             obtain ⟨AA26, cc26, hF1, hM⟩ := hS
             refine sStore (i := 8) (off := 3) (cs' := #[.slice A la.length ca, .slice A2 lq.length cq_, .int .i64 t, .slice AA26 ls.length cc26, .slice A4 lm.length cm]) hF1 hM (by kernel_rfl) rfl rfl (by kernel_rfl) (by kernel_rfl) rfl (by kernel_rfl) fun w hM => ?_
             exact ⟨AA26, cc26, (hF1.cast (by kernel_rfl)), ((hM.repl 7 (by kernel_rfl)).cast (by kernel_rfl))⟩
           ·intro a1 w hS
            obtain ⟨AA26, cc26, hF1, hM⟩ := hS
            replace hF1 : Fr 89 [(4, some (.pointer (some ⟨bb16, 0, none⟩))), (8, some (.int .i64 0)), (9, some (.pointer (some ⟨bb18, 0, none⟩))), (12, some (.pointer (some ⟨bb21, 0, none⟩))), (14, some (.int .i64 0)), (76, some (.pointer (some ⟨bb4, 0, none⟩))), (77, some (.pointer (some ⟨bb4, 0, none⟩))), (78, some (.pointer (some ⟨bb4, 0, none⟩))), (79, some (.pointer (some ⟨bb4, 0, none⟩))), (80, some (.pointer (some ⟨bb4, 3, none⟩))), (81, some (.slice A3 ls.length cs)), (82, some (.int .i64 (kk : Int))), (83, some (.int .i64 pe)), (84, some (.slice AA26 ls.length cc26)), (85, some (.pointer (some ⟨bb4, 0, none⟩))), (86, some (.pointer (some ⟨bb4, 0, none⟩))), (87, some (.pointer (some ⟨bb4, 3, none⟩)))] a1 := hF1.cast (by kernel_rfl)
            replace hM : Mem w0.heap.size w0 [(1, some (.ro A (flatR la))), (2, some (.ro A2 (flatR lq))), (3, some (.ro A3 (ls.map (Value.int .i64)))), (4, some (.ro A4 (flatR lm))), (5, some (.row bb1 27 #[.slice A la.length ca, .slice A2 lq.length cq_, .int .i64 now, .slice A3 ls.length cs, .slice A4 lm.length cm])), (6, some (.row bb2 39 #[.int .i64 i1, .int .i64 i2, .int .i64 i3, .int .i64 i4, .int .i64 i5])), (7, some (.row bb3 27 #[.slice none 0 0, .slice none 0 0, .int .i64 0, .slice none 0 0, .slice none 0 0])), (8, some (.row bb4 85 #[.slice A la.length ca, .slice A2 lq.length cq_, .int .i64 t, .slice AA26 ls.length cc26, .slice A4 lm.length cm])), (20, some (.row bb16 103 #[.pointer (some ⟨bb4, 0, none⟩)])), (22, some (.row bb18 3 #[.int .i64 (kk : Int)])), (25, some (.row bb21 3 #[.int .i64 pe])), (30, some (.own (.slice AA26 ls.length cc26) 3 1 ls.length (((ls).set kk pe).map (Value.int .i64))))] w := hM.cast (by kernel_rfl)
            refine hK163 _ _ ?_
            refine wp_seq_k fun K165 hK165 => ?_
            refine wp_region_lit ?_
            refine sB 2 [(88, .int .i64 0), (8, .int .i64 0)] hF1 (by kernel_rfl) fun a1 hF1 => ?_
            refine wpList_nil ?_
            refine hK165 _ _ ?_
            refine wp_ret ?_
            refine hR95 _ _ ?_
            refine ret_of hF1 hM (.tmp rfl (.nil)) ⟨_, rfl, ?_⟩
            intro a hF
            refine sB 1 [(14, .int .i64 0)] hF (by kernel_rfl) fun a hF => ?_
            refine wpList_nil ?_
            refine hK94 _ _ ?_
            refine wp_seq_k fun K166 hK166 => ?_
            refine wp_region_lit ?_
            refine sB 1 [(55, .pointer (some ⟨bb4, 0, none⟩))] hF (by kernel_rfl) fun a hF => ?_
            refine wl (eL 56 8 0 (v := .agg #[.slice A la.length ca, .slice A2 lq.length cq_, .int .i64 t, .slice AA26 ls.length cc26, .slice A4 lm.length cm]) hF hM (by kernel_rfl) rfl rfl (by kernel_rfl) (by kernel_rfl) fun a w hF hM => ?_)
            refine sB 1 [(57, .int .i64 0)] hF (by kernel_rfl) fun a hF => ?_
            refine wl (sStore (i := 7) (off := 0) (cs' := #[.slice A la.length ca, .slice A2 lq.length cq_, .int .i64 t, .slice AA26 ls.length cc26, .slice A4 lm.length cm]) hF hM (by kernel_rfl) rfl rfl (by kernel_rfl) (by kernel_rfl) rfl (by kernel_rfl) fun w hM => ?_)
            refine sB 2 [(9, .int .i64 0), (10, .int .i64 0)] hF (by kernel_rfl) fun a hF => ?_
            refine wpList_nil ?_
            refine hK166 _ _ ?_
            refine wp_ret ?_
            refine hR0 _ _ ?_
            refine ret_of hF hM (.cell (i := 7) rfl rfl (v := .agg #[.slice A la.length ca, .slice A2 lq.length cq_, .int .i64 t, .slice AA26 ls.length cc26, .slice A4 lm.length cm]) (by kernel_rfl) (.tmp rfl (.tmp rfl (.nil)))) ?_
            have e2 := e.symm.trans (show psR la lq ls lm port i1 i3 i4 t = ((ls).set kk pe, lm, 0) from by unfold psR; rw [if_neg (show ¬ i3 ≤ 5 by omega)]; have hA : psA la ls port i1 i3 i4 t = ((ls).set kk pe, 0) := by { unfold psA; rw [if_neg (show ¬ regI port i1 i3 la < 0 by omega), hkk, Int.toNat_natCast, if_neg hz11]; first | (rw [if_pos (by omega)]; done) | (rw [if_neg (by omega)]; first | (rw [if_pos (by omega)]; done) | (rw [if_neg (by omega)]; first | (rw [if_pos (by omega)]; done) | rw [if_neg (by omega), hpe])) }; rw [hA])
            have eq1 := (Prod.mk.inj e2).1
            have eq2 := (Prod.mk.inj (Prod.mk.inj e2).2).1
            have eq3 := (Prod.mk.inj (Prod.mk.inj e2).2).2
            clear e2 e
            subst eq1 eq2 eq3
            subst e3 e4
            exact ⟨_, _, _, _, rfl, hM.ownNew (k := 30) rfl, hM.roSame (k := 4) rfl, hM.bel⟩
       ·skip
        replace hF1 := hF1.c hF1 (i := 70) (v := .bool true) rfl (nF hz13)
        refine cT hF1 (by kernel_rfl) (by kernel_rfl) ?_
        refine wp_seq_k fun K167 hK167 => ?_
        refine wp_region_lit ?_
        refine sB 1 [(71, .pointer (some ⟨bb23, 1, none⟩))] hF1 (by kernel_rfl) fun a1 hF1 => ?_
        refine wl (eL 72 27 1 (v := .int .i64 2) hF1 hM (by kernel_rfl) rfl rfl (by kernel_rfl) (by kernel_rfl) fun a1 w hF1 hM => ?_)
        refine sB 1 [(14, .int .i64 2)] hF1 (by kernel_rfl) fun a1 hF1 => ?_
        refine wpList_nil ?_
        refine hK167 _ _ ?_
        refine wp_exit ?_
        refine hK116 _ _ ?_
        refine wp_seq_k fun K168 hK168 => ?_
        refine wp_seq_k fun K169 hK169 => ?_
        refine wp_region_lit ?_
        refine sB 1 [(74, .int .i64 2)] hF1 (by kernel_rfl) fun a1 hF1 => ?_
        refine wl (eP 75 (v0 := .bool (decide (2 = 0))) (v := .bool false) hF1 (by kernel_rfl) (fun _ => by kernel_rfl) (bF (by omega)) fun a1 hF1 => ?_)
        refine wpList_nil ?_
        refine hK169 _ _ ?_
        refine cF hF1 (by kernel_rfl) (by kernel_rfl) ?_
        refine wp_skip ?_
        refine hK168 _ _ ?_
        refine wp_seq_k fun K170 hK170 => ?_
        refine wp_region_lit ?_
        refine sB 2 [(88, .int .i64 2), (8, .int .i64 2)] hF1 (by kernel_rfl) fun a1 hF1 => ?_
        refine wpList_nil ?_
        refine hK170 _ _ ?_
        refine wp_ret ?_
        refine hR95 _ _ ?_
        refine ret_of hF1 hM (.tmp rfl (.nil)) ⟨_, rfl, ?_⟩
        intro a hF
        refine sB 1 [(14, .int .i64 2)] hF (by kernel_rfl) fun a hF => ?_
        refine wpList_nil ?_
        refine hK94 _ _ ?_
        refine wp_seq_k fun K171 hK171 => ?_
        refine wp_region_lit ?_
        refine sB 1 [(55, .pointer (some ⟨bb4, 0, none⟩))] hF (by kernel_rfl) fun a hF => ?_
        refine wl (eL 56 8 0 (v := .agg #[.slice A la.length ca, .slice A2 lq.length cq_, .int .i64 t, .slice A3 ls.length cs, .slice A4 lm.length cm]) hF hM (by kernel_rfl) rfl rfl (by kernel_rfl) (by kernel_rfl) fun a w hF hM => ?_)
        refine sB 1 [(57, .int .i64 2)] hF (by kernel_rfl) fun a hF => ?_
        refine wl (sStore (i := 7) (off := 0) (cs' := #[.slice A la.length ca, .slice A2 lq.length cq_, .int .i64 t, .slice A3 ls.length cs, .slice A4 lm.length cm]) hF hM (by kernel_rfl) rfl rfl (by kernel_rfl) (by kernel_rfl) rfl (by kernel_rfl) fun w hM => ?_)
        refine sB 2 [(9, .int .i64 2), (10, .int .i64 0)] hF (by kernel_rfl) fun a hF => ?_
        refine wpList_nil ?_
        refine hK171 _ _ ?_
        refine wp_ret ?_
        refine hR0 _ _ ?_
        refine ret_of hF hM (.cell (i := 7) rfl rfl (v := .agg #[.slice A la.length ca, .slice A2 lq.length cq_, .int .i64 t, .slice A3 ls.length cs, .slice A4 lm.length cm]) (by kernel_rfl) (.tmp rfl (.tmp rfl (.nil)))) ?_
        have e2 := e.symm.trans (show psR la lq ls lm port i1 i3 i4 t = (ls, lm, 2) from by unfold psR; rw [if_neg (show ¬ i3 ≤ 5 by omega)]; have hA : psA la ls port i1 i3 i4 t = (ls, 2) := by { unfold psA; rw [if_neg (show ¬ regI port i1 i3 la < 0 by omega), hkk, Int.toNat_natCast, if_neg hz11]; first | (rw [if_pos (by omega)]; done) | (rw [if_neg (by omega)]; first | (rw [if_pos (by omega)]; done) | (rw [if_neg (by omega)]; first | (rw [if_pos (by omega)]; done) | rw [if_neg (by omega), hpe])) }; rw [hA])
        have eq1 := (Prod.mk.inj e2).1
        have eq2 := (Prod.mk.inj (Prod.mk.inj e2).2).1
        have eq3 := (Prod.mk.inj (Prod.mk.inj e2).2).2
        clear e2 e
        subst eq1 eq2 eq3
        subst e3 e4
        exact ⟨_, _, _, _, rfl, hM.roSame (k := 3) rfl, hM.roSame (k := 4) rfl, hM.bel⟩
  ·skip
   replace hF := hF.c hF (i := 47) (v := .bool false) rfl (bF hz9)
   replace hF := hF.c hF (i := 48) (v := .bool false) rfl (bF hz9)
   refine cF hF (by kernel_rfl) (by kernel_rfl) ?_
   refine wp_skip ?_
   refine hK14 _ _ ?_
   refine wp_seq_k fun K172 hK172 => ?_
   refine wp_region_lit ?_
   refine sB 2 [(50, .func (.func 37) #[.pointer (some ⟨bb4, 0, none⟩)] #[]), (51, .int .i64 port)] hF (by kernel_rfl) fun a hF => ?_
   refine wl (eL 52 6 0 (v := .agg #[.int .i64 i1, .int .i64 i2, .int .i64 i3, .int .i64 i4, .int .i64 i5]) hF hM (by kernel_rfl) rfl rfl (by kernel_rfl) (by kernel_rfl) fun a w hF hM => ?_)
   refine sB 1 [(53, .int .i64 t)] hF (by kernel_rfl) fun a hF => ?_
   refine wl (sC (f := 37) (args := #[.pointer (some ⟨bb4, 0, none⟩), .int .i64 port, .agg #[.int .i64 i1, .int .i64 i2, .int .i64 i3, .int .i64 i4, .int .i64 i5], .int .i64 t]) hF (by kernel_rfl) rfl (by decide) (by kernel_rfl) (fun _ => by kernel_rfl) ?_)
   refine enterK 68 Try.func37 rfl rfl rfl ?_
   intro a1 hF1 QR173 hR173 hNR173
   refine wp_seq_k fun K174 hK174 => ?_
   refine wp_region_lit ?_
   refine wl (eN 5 31 (t := 3) (fun b => .pointer (some ⟨b, 0, none⟩)) #[.int .i64 port] hF1 hM (by kernel_rfl) (fun _ => by kernel_rfl) fun bb27 a1 w hF1 hM => ?_)
   refine wl (eN 6 32 (t := 39) (fun b => .pointer (some ⟨b, 0, none⟩)) #[.int .i64 i1, .int .i64 i2, .int .i64 i3, .int .i64 i4, .int .i64 i5] hF1 hM (by kernel_rfl) (fun _ => by kernel_rfl) fun bb28 a1 w hF1 hM => ?_)
   refine sB 1 [(8, .int .i64 0)] hF1 (by kernel_rfl) fun a1 hF1 => ?_
   refine wpList_nil ?_
   refine hK174 _ _ ?_
   refine wp_seq_k fun K175 hK175 => ?_
   have hln := fl_len (fl_p h0)
   have hvi := vi_bd hv
   refine wp_region_lit ?_
   refine sB 4 [(14, .pointer (some ⟨bb4, 0, none⟩)), (15, .pointer (some ⟨bb4, 0, none⟩)), (16, .pointer (some ⟨bb4, 0, none⟩)), (17, .pointer (some ⟨bb4, 1, none⟩))] hF1 (by kernel_rfl) fun a1 hF1 => ?_
   refine wl (eL 18 8 1 (v := .slice A2 lq.length cq_) hF1 hM (by kernel_rfl) rfl rfl (by kernel_rfl) (by kernel_rfl) fun a1 w hF1 hM => ?_)
   refine sB 1 [(19, .func (.func 54) #[] #[.pointer (some ⟨bb27, 0, none⟩)])] hF1 (by kernel_rfl) fun a1 hF1 => ?_
   refine wl (eM 20 (v := .int .i64 (polI port lq)) hF1 hM (by kernel_rfl) (yld_call (f := 49) (args := #[.slice A2 lq.length cq_, .func (.func 54) #[] #[.pointer (some ⟨bb27, 0, none⟩)]]) hF1 (by kernel_rfl) (fun _ => by kernel_rfl) (fun w hM => find4_w port bb27 A2 lq cq_ w (hM.ok 2 _ rfl) hW2 (by omega) (hM.roRow (k := 31) rfl))) fun a1 w hF1 hM => ?_)
   refine sB 1 [(9, .int .i64 (polI port lq))] hF1 (by kernel_rfl) fun a1 hF1 => ?_
   refine wpList_nil ?_
   refine hK175 _ _ ?_
   refine wp_seq_k fun K176 hK176 => ?_
   refine wp_seq_k fun K177 hK177 => ?_
   refine wp_region_lit ?_
   refine sB 2 [(21, .int .i64 (polI port lq)), (22, .bool (decide (polI port lq < 0)))] hF1 (by kernel_rfl) fun a1 hF1 => ?_
   refine wpList_nil ?_
   refine hK177 _ _ ?_
   by_cases hz17 : polI port lq < 0
   ·skip
    replace hF1 := hF1.c hF1 (i := 22) (v := .bool true) rfl (bT hz17)
    refine cT hF1 (by kernel_rfl) (by kernel_rfl) ?_
    refine wp_seq_k fun K178 hK178 => ?_
    refine wp_region_lit ?_
    refine sB 1 [(8, .int .i64 0)] hF1 (by kernel_rfl) fun a1 hF1 => ?_
    refine wpList_nil ?_
    refine hK178 _ _ ?_
    refine wp_ret ?_
    refine hR173 _ _ ?_
    refine ret_of hF1 hM (.tmp rfl (.nil)) ⟨_, rfl, ?_⟩
    intro a hF
    refine sB 1 [(14, .int .i64 0)] hF (by kernel_rfl) fun a hF => ?_
    refine wpList_nil ?_
    refine hK172 _ _ ?_
    refine wp_seq_k fun K179 hK179 => ?_
    refine wp_region_lit ?_
    refine sB 1 [(55, .pointer (some ⟨bb4, 0, none⟩))] hF (by kernel_rfl) fun a hF => ?_
    refine wl (eL 56 8 0 (v := .agg #[.slice A la.length ca, .slice A2 lq.length cq_, .int .i64 t, .slice A3 ls.length cs, .slice A4 lm.length cm]) hF hM (by kernel_rfl) rfl rfl (by kernel_rfl) (by kernel_rfl) fun a w hF hM => ?_)
    refine sB 1 [(57, .int .i64 0)] hF (by kernel_rfl) fun a hF => ?_
    refine wl (sStore (i := 7) (off := 0) (cs' := #[.slice A la.length ca, .slice A2 lq.length cq_, .int .i64 t, .slice A3 ls.length cs, .slice A4 lm.length cm]) hF hM (by kernel_rfl) rfl rfl (by kernel_rfl) (by kernel_rfl) rfl (by kernel_rfl) fun w hM => ?_)
    refine sB 2 [(9, .int .i64 0), (10, .int .i64 0)] hF (by kernel_rfl) fun a hF => ?_
    refine wpList_nil ?_
    refine hK179 _ _ ?_
    refine wp_ret ?_
    refine hR0 _ _ ?_
    refine ret_of hF hM (.cell (i := 7) rfl rfl (v := .agg #[.slice A la.length ca, .slice A2 lq.length cq_, .int .i64 t, .slice A3 ls.length cs, .slice A4 lm.length cm]) (by kernel_rfl) (.tmp rfl (.tmp rfl (.nil)))) ?_
    have e2 := e.symm.trans (show psR la lq ls lm port i1 i3 i4 t = (ls, lm, 0) from by unfold psR psM; rw [if_pos (show i3 ≤ 5 by omega), if_pos hz17])
    have eq1 := (Prod.mk.inj e2).1
    have eq2 := (Prod.mk.inj (Prod.mk.inj e2).2).1
    have eq3 := (Prod.mk.inj (Prod.mk.inj e2).2).2
    clear e2 e
    subst eq1 eq2 eq3
    subst e3 e4
    exact ⟨_, _, _, _, rfl, hM.roSame (k := 3) rfl, hM.roSame (k := 4) rfl, hM.bel⟩
   ·skip
    replace hF1 := hF1.c hF1 (i := 22) (v := .bool false) rfl (bF hz17)
    refine cF hF1 (by kernel_rfl) (by kernel_rfl) ?_
    refine wp_skip ?_
    refine hK176 _ _ ?_
    refine wp_seq_k fun K180 hK180 => ?_
    obtain ⟨kk, hkk, hklt, hkp, hkn⟩ := pol_pos hz17
    rw [hkk] at hF1
    have hmk := mk_k h0 hklt ht (size := i4) (by omega)
    have hz18 := mkE_ok hmk
    have hz19 := hz18.1
    have hz20 := mtE_ok hz19
    have hz21 := hz20.1
    have hz22 := newE_ok hz21
    refine wp_region_lit ?_
    refine sB 4 [(23, .pointer (some ⟨bb4, 0, none⟩)), (24, .pointer (some ⟨bb4, 0, none⟩)), (25, .pointer (some ⟨bb4, 0, none⟩)), (26, .pointer (some ⟨bb4, 1, none⟩))] hF1 (by kernel_rfl) fun a1 hF1 => ?_
    refine wl (eL 27 8 1 (v := .slice A2 lq.length cq_) hF1 hM (by kernel_rfl) rfl rfl (by kernel_rfl) (by kernel_rfl) fun a1 w hF1 hM => ?_)
    refine sB 1 [(28, .int .i64 (kk : Int))] hF1 (by kernel_rfl) fun a1 hF1 => ?_
    refine wl (eM 29 (v := .pointer (some (ea A2 (kk * 5)))) hF1 hM (by kernel_rfl) (yld_ix (kd := .i64) (e := 69) (len := lq.length) (cap := cq_) (i := (kk : Int)) (size := 5) (A := A2) hF1 rfl (by kernel_rfl) (by kernel_rfl) (by kernel_rfl) (by kernel_rfl) (by kernel_rfl) (roK 2 rfl) (by omega) (by omega) (by rw [flatR_length hW2]; (try simp only [List.length_map, List.length_append, List.length_replicate, List.length_set, List.length_cons, List.length_nil, flat2_length, List.length_take]); omega)) fun a1 w hF1 hM => ?_)
    refine wl (eM 30 (v := .agg #[.int .i64 (rc lq kk 0), .int .i64 (rc lq kk 1), .int .i64 (rc lq kk 2), .int .i64 (rc lq kk 3), .int .i64 (rc lq kk 4)]) hF1 hM (by kernel_rfl) (yld_roM (A := A2) (j := kk * 5) (us := [.int .i64 (rc lq kk 0), .int .i64 (rc lq kk 1), .int .i64 (rc lq kk 2), .int .i64 (rc lq kk 3), .int .i64 (rc lq kk 4)]) hF1 rfl (by kernel_rfl) (by kernel_rfl) (roK 2 rfl) (by kernel_rfl) rfl (rc_sub (k := kk) (f := 0) (m := 5) hW2 (by omega) (by decide) rfl)) fun a1 w hF1 hM => ?_)
    refine wl (eN 10 33 (t := 69) (fun b => .pointer (some ⟨b, 0, none⟩)) #[.int .i64 0, .int .i64 0, .int .i64 0, .int .i64 0, .int .i64 0] hF1 hM (by kernel_rfl) (fun _ => by kernel_rfl) fun bb29 a1 w hF1 hM => ?_)
    refine wl (sStore (i := 33) (off := 0) (cs' := #[.int .i64 (rc lq kk 0), .int .i64 (rc lq kk 1), .int .i64 (rc lq kk 2), .int .i64 (rc lq kk 3), .int .i64 (rc lq kk 4)]) hF1 hM (by kernel_rfl) rfl rfl (by kernel_rfl) (by kernel_rfl) rfl (by kernel_rfl) fun w hM => ?_)
    refine wpList_nil ?_
    refine hK180 _ _ ?_
    refine wp_seq_k fun K181 hK181 => ?_
    refine rF (by kernel_rfl) (by kernel_rfl) (fun S a w => ∃ bb30 : Nat, Fr 68 [(0, some (.pointer (some ⟨bb4, 0, none⟩))), (3, some (.int .i64 t)), (6, some (.pointer (some ⟨bb28, 0, none⟩))), (8, some (.int .i64 0)), (9, some (.int .i64 (kk : Int))), (10, some (.pointer (some ⟨bb29, 0, none⟩))), (11, (cond (S.getD 22 false) (some (.int .i64 (mkCol (rc lq kk 1) (rc lq kk 2) (rc lq kk 3) (rc lq kk 4) (rc lm kk 0) (rc lm kk 1) (rc lm kk 2) (t + 1000) i4))) none)), (12, (cond (S.getD 21 false) (some (.pointer (some ⟨bb30, 0, none⟩))) none)), (13, (cond (S.getD 24 false) (some (.int .i64 (mkE (rc lq kk 1) (rc lq kk 2) (rc lq kk 3) (rc lq kk 4) (rc lm kk 0) (rc lm kk 1) (rc lm kk 2) (t + 1000) i4))) none)), (31, (cond (S.getD 17 false) (some (.tuple #[.int .i64 (mkCol (rc lq kk 1) (rc lq kk 2) (rc lq kk 3) (rc lq kk 4) (rc lm kk 0) (rc lm kk 1) (rc lm kk 2) (t + 1000) i4), .agg #[.int .i64 (mkL (rc lq kk 1) (rc lq kk 2) (rc lq kk 3) (rc lq kk 4) (rc lm kk 0) (rc lm kk 1) (rc lm kk 2) (t + 1000) i4), .int .i64 (mkC (rc lq kk 1) (rc lq kk 2) (rc lq kk 3) (rc lq kk 4) (rc lm kk 0) (rc lm kk 1) (rc lm kk 2) (t + 1000) i4), .int .i64 (mkP (rc lq kk 1) (rc lq kk 2) (rc lq kk 3) (rc lq kk 4) (rc lm kk 0) (rc lm kk 1) (rc lm kk 2) (t + 1000) i4)], .int .i64 (mkE (rc lq kk 1) (rc lq kk 2) (rc lq kk 3) (rc lq kk 4) (rc lm kk 0) (rc lm kk 1) (rc lm kk 2) (t + 1000) i4)])) none)), (32, (cond (S.getD 0 false) (some (.pointer (some ⟨bb29, 1, none⟩))) none)), (33, (cond (S.getD 1 false) (some (.agg #[.int .i64 (rc lq kk 1), .int .i64 (rc lq kk 2)])) none)), (34, (cond (S.getD 2 false) (some (.pointer (some ⟨bb29, 3, none⟩))) none)), (35, (cond (S.getD 3 false) (some (.agg #[.int .i64 (rc lq kk 3), .int .i64 (rc lq kk 4)])) none)), (36, (cond (S.getD 4 false) (some (.pointer (some ⟨bb4, 0, none⟩))) none)), (37, (cond (S.getD 5 false) (some (.pointer (some ⟨bb4, 0, none⟩))) none)), (38, (cond (S.getD 6 false) (some (.pointer (some ⟨bb4, 0, none⟩))) none)), (39, (cond (S.getD 7 false) (some (.pointer (some ⟨bb4, 4, none⟩))) none)), (40, (cond (S.getD 8 false) (some (.slice A4 lm.length cm)) none)), (41, (cond (S.getD 9 false) (some (.int .i64 (kk : Int))) none)), (42, (cond (S.getD 10 false) (some (.pointer (some (ea A4 (kk * 3))))) none)), (43, (cond (S.getD 11 false) (some (.agg #[.int .i64 (rc lm kk 0), .int .i64 (rc lm kk 1), .int .i64 (rc lm kk 2)])) none)), (44, (cond (S.getD 12 false) (some (.int .i64 t)) none)), (45, (cond (S.getD 13 false) (some (.int .i64 (t + 1000))) none)), (46, (cond (S.getD 14 false) (some (.pointer (some ⟨bb28, 3, none⟩))) none)), (47, (cond (S.getD 15 false) (some (.int .i64 i4)) none)), (48, (cond (S.getD 16 false) (some (.tuple #[.int .i64 (mkCol (rc lq kk 1) (rc lq kk 2) (rc lq kk 3) (rc lq kk 4) (rc lm kk 0) (rc lm kk 1) (rc lm kk 2) (t + 1000) i4), .agg #[.int .i64 (mkL (rc lq kk 1) (rc lq kk 2) (rc lq kk 3) (rc lq kk 4) (rc lm kk 0) (rc lm kk 1) (rc lm kk 2) (t + 1000) i4), .int .i64 (mkC (rc lq kk 1) (rc lq kk 2) (rc lq kk 3) (rc lq kk 4) (rc lm kk 0) (rc lm kk 1) (rc lm kk 2) (t + 1000) i4), .int .i64 (mkP (rc lq kk 1) (rc lq kk 2) (rc lq kk 3) (rc lq kk 4) (rc lm kk 0) (rc lm kk 1) (rc lm kk 2) (t + 1000) i4)], .int .i64 (mkE (rc lq kk 1) (rc lq kk 2) (rc lq kk 3) (rc lq kk 4) (rc lm kk 0) (rc lm kk 1) (rc lm kk 2) (t + 1000) i4)])) none)), (49, (cond (S.getD 18 false) (some (.int .i64 (mkCol (rc lq kk 1) (rc lq kk 2) (rc lq kk 3) (rc lq kk 4) (rc lm kk 0) (rc lm kk 1) (rc lm kk 2) (t + 1000) i4))) none)), (50, (cond (S.getD 19 false) (some (.agg #[.int .i64 (mkL (rc lq kk 1) (rc lq kk 2) (rc lq kk 3) (rc lq kk 4) (rc lm kk 0) (rc lm kk 1) (rc lm kk 2) (t + 1000) i4), .int .i64 (mkC (rc lq kk 1) (rc lq kk 2) (rc lq kk 3) (rc lq kk 4) (rc lm kk 0) (rc lm kk 1) (rc lm kk 2) (t + 1000) i4), .int .i64 (mkP (rc lq kk 1) (rc lq kk 2) (rc lq kk 3) (rc lq kk 4) (rc lm kk 0) (rc lm kk 1) (rc lm kk 2) (t + 1000) i4)])) none)), (51, (cond (S.getD 20 false) (some (.int .i64 (mkE (rc lq kk 1) (rc lq kk 2) (rc lq kk 3) (rc lq kk 4) (rc lm kk 0) (rc lm kk 1) (rc lm kk 2) (t + 1000) i4))) none))] a ∧ Mem w0.heap.size w0 [(1, some (.ro A (flatR la))), (2, some (.ro A2 (flatR lq))), (3, some (.ro A3 (ls.map (Value.int .i64)))), (4, some (.ro A4 (flatR lm))), (5, some (.row bb1 27 #[.slice A la.length ca, .slice A2 lq.length cq_, .int .i64 now, .slice A3 ls.length cs, .slice A4 lm.length cm])), (6, some (.row bb2 39 #[.int .i64 i1, .int .i64 i2, .int .i64 i3, .int .i64 i4, .int .i64 i5])), (7, some (.row bb3 27 #[.slice none 0 0, .slice none 0 0, .int .i64 0, .slice none 0 0, .slice none 0 0])), (8, some (.row bb4 85 #[.slice A la.length ca, .slice A2 lq.length cq_, .int .i64 t, .slice A3 ls.length cs, .slice A4 lm.length cm])), (32, some (.row bb28 39 #[.int .i64 i1, .int .i64 i2, .int .i64 i3, .int .i64 i4, .int .i64 i5])), (33, some (.row bb29 69 #[.int .i64 (rc lq kk 0), .int .i64 (rc lq kk 1), .int .i64 (rc lq kk 2), .int .i64 (rc lq kk 3), .int .i64 (rc lq kk 4)])), (34, (cond (S.getD 23 false) (some (.row bb30 80 #[.int .i64 (mkL (rc lq kk 1) (rc lq kk 2) (rc lq kk 3) (rc lq kk 4) (rc lm kk 0) (rc lm kk 1) (rc lm kk 2) (t + 1000) i4), .int .i64 (mkC (rc lq kk 1) (rc lq kk 2) (rc lq kk 3) (rc lq kk 4) (rc lm kk 0) (rc lm kk 1) (rc lm kk 2) (t + 1000) i4), .int .i64 (mkP (rc lq kk 1) (rc lq kk 2) (rc lq kk 3) (rc lq kk 4) (rc lm kk 0) (rc lm kk 1) (rc lm kk 2) (t + 1000) i4)])) (cond (S.getD 21 false) (some (.row bb30 80 #[.int .i64 0, .int .i64 0, .int .i64 0])) none)))] w) ?_ ?_ ?_
    ·exact ⟨0, (((((((((((((((((((((((((((((((Fr.nil hF1).co hF1 (i := 51) (by kernel_rfl)).co hF1 (i := 50) (by kernel_rfl)).co hF1 (i := 49) (by kernel_rfl)).co hF1 (i := 48) (by kernel_rfl)).co hF1 (i := 47) (by kernel_rfl)).co hF1 (i := 46) (by kernel_rfl)).co hF1 (i := 45) (by kernel_rfl)).co hF1 (i := 44) (by kernel_rfl)).co hF1 (i := 43) (by kernel_rfl)).co hF1 (i := 42) (by kernel_rfl)).co hF1 (i := 41) (by kernel_rfl)).co hF1 (i := 40) (by kernel_rfl)).co hF1 (i := 39) (by kernel_rfl)).co hF1 (i := 38) (by kernel_rfl)).co hF1 (i := 37) (by kernel_rfl)).co hF1 (i := 36) (by kernel_rfl)).co hF1 (i := 35) (by kernel_rfl)).co hF1 (i := 34) (by kernel_rfl)).co hF1 (i := 33) (by kernel_rfl)).co hF1 (i := 32) (by kernel_rfl)).co hF1 (i := 31) (by kernel_rfl)).co hF1 (i := 13) (by kernel_rfl)).co hF1 (i := 12) (by kernel_rfl)).co hF1 (i := 11) (by kernel_rfl)).co hF1 (i := 10) (by kernel_rfl)).co hF1 (i := 9) (by kernel_rfl)).co hF1 (i := 8) (by kernel_rfl)).co hF1 (i := 6) (by kernel_rfl)).co hF1 (i := 3) (by kernel_rfl)).co hF1 (i := 0) (by kernel_rfl)), hM.drew.sub (((((((((((Sub.nil.co (k := 34) (by kernel_rfl)).co (k := 33) (by kernel_rfl)).co (k := 32) (by kernel_rfl)).co (k := 8) (by kernel_rfl)).co (k := 7) (by kernel_rfl)).co (k := 6) (by kernel_rfl)).co (k := 5) (by kernel_rfl)).co (k := 4) (by kernel_rfl)).co (k := 3) (by kernel_rfl)).co (k := 2) (by kernel_rfl)).co (k := 1) (by kernel_rfl))⟩
    ·refine stC ?_ (stC ?_ (stC ?_ (stC ?_ (stC ?_ (stC ?_ (stC ?_ (stC ?_ (stC ?_ (stC ?_ (stC ?_ (stC ?_ (stC ?_ (stC ?_ (stC ?_ (stC ?_ (stC ?_ (stC ?_ (stC ?_ (stC ?_ (stC ?_ (stC ?_ (stC ?_ (stC ?_ (stC ?_ (trivial)))))))))))))))))))))))))
     ·intro s0 s1 s2 s3 s4 s5 s6 s7 s8 s9 s10 s11 s12 s13 s14 s15 s16 s17 s18 s19 s20 s21 s22 s23 s24 hc hi hp a w hS
      obtain rfl : s0 = false := hi
      obtain ⟨bb30, hF1, hM⟩ := hS
      refine eP 32 (v0 := .pointer (some ⟨bb29, 1, none⟩)) (v := .pointer (some ⟨bb29, 1, none⟩)) hF1 (by kernel_rfl) (fun _ => by kernel_rfl) rfl fun a1 hF1 => ?_
      exact ⟨bb30, ((hF1.repl 10 (by kernel_rfl)).cast (by kernel_rfl)), (hM.cast (by kernel_rfl))⟩
     ·intro s0 s1 s2 s3 s4 s5 s6 s7 s8 s9 s10 s11 s12 s13 s14 s15 s16 s17 s18 s19 s20 s21 s22 s23 s24 hc hi hp a w hS
      obtain rfl : s1 = false := hi
      obtain rfl : s0 = true := hp 0 (by kernel_rfl)
      obtain ⟨bb30, hF1, hM⟩ := hS
      refine eL 33 33 1 (v := .agg #[.int .i64 (rc lq kk 1), .int .i64 (rc lq kk 2)]) hF1 hM (by kernel_rfl) rfl rfl (by kernel_rfl) (by kernel_rfl) fun a1 w hF1 hM => ?_
      exact ⟨bb30, ((hF1.repl 11 (by kernel_rfl)).cast (by kernel_rfl)), (hM.cast (by kernel_rfl))⟩
     ·intro s0 s1 s2 s3 s4 s5 s6 s7 s8 s9 s10 s11 s12 s13 s14 s15 s16 s17 s18 s19 s20 s21 s22 s23 s24 hc hi hp a w hS
      obtain rfl : s2 = false := hi
      obtain ⟨bb30, hF1, hM⟩ := hS
      refine eP 34 (v0 := .pointer (some ⟨bb29, 3, none⟩)) (v := .pointer (some ⟨bb29, 3, none⟩)) hF1 (by kernel_rfl) (fun _ => by kernel_rfl) rfl fun a1 hF1 => ?_
      exact ⟨bb30, ((hF1.repl 12 (by kernel_rfl)).cast (by kernel_rfl)), (hM.cast (by kernel_rfl))⟩
     ·intro s0 s1 s2 s3 s4 s5 s6 s7 s8 s9 s10 s11 s12 s13 s14 s15 s16 s17 s18 s19 s20 s21 s22 s23 s24 hc hi hp a w hS
      obtain rfl : s3 = false := hi
      obtain rfl : s2 = true := hp 2 (by kernel_rfl)
      obtain ⟨bb30, hF1, hM⟩ := hS
      refine eL 35 33 3 (v := .agg #[.int .i64 (rc lq kk 3), .int .i64 (rc lq kk 4)]) hF1 hM (by kernel_rfl) rfl rfl (by kernel_rfl) (by kernel_rfl) fun a1 w hF1 hM => ?_
      exact ⟨bb30, ((hF1.repl 13 (by kernel_rfl)).cast (by kernel_rfl)), (hM.cast (by kernel_rfl))⟩
     ·intro s0 s1 s2 s3 s4 s5 s6 s7 s8 s9 s10 s11 s12 s13 s14 s15 s16 s17 s18 s19 s20 s21 s22 s23 s24 hc hi hp a w hS
      obtain rfl : s4 = false := hi
      obtain ⟨bb30, hF1, hM⟩ := hS
      refine eP 36 (v0 := .pointer (some ⟨bb4, 0, none⟩)) (v := .pointer (some ⟨bb4, 0, none⟩)) hF1 (by kernel_rfl) (fun _ => by kernel_rfl) rfl fun a1 hF1 => ?_
      exact ⟨bb30, ((hF1.repl 14 (by kernel_rfl)).cast (by kernel_rfl)), (hM.cast (by kernel_rfl))⟩
     ·intro s0 s1 s2 s3 s4 s5 s6 s7 s8 s9 s10 s11 s12 s13 s14 s15 s16 s17 s18 s19 s20 s21 s22 s23 s24 hc hi hp a w hS
      obtain rfl : s5 = false := hi
      obtain rfl : s4 = true := hp 4 (by kernel_rfl)
      obtain ⟨bb30, hF1, hM⟩ := hS
      refine eP 37 (v0 := .pointer (some ⟨bb4, 0, none⟩)) (v := .pointer (some ⟨bb4, 0, none⟩)) hF1 (by kernel_rfl) (fun _ => by kernel_rfl) rfl fun a1 hF1 => ?_
      exact ⟨bb30, ((hF1.repl 15 (by kernel_rfl)).cast (by kernel_rfl)), (hM.cast (by kernel_rfl))⟩
     ·intro s0 s1 s2 s3 s4 s5 s6 s7 s8 s9 s10 s11 s12 s13 s14 s15 s16 s17 s18 s19 s20 s21 s22 s23 s24 hc hi hp a w hS
      obtain rfl : s6 = false := hi
      obtain rfl : s5 = true := hp 5 (by kernel_rfl)
      obtain ⟨bb30, hF1, hM⟩ := hS
      refine eP 38 (v0 := .pointer (some ⟨bb4, 0, none⟩)) (v := .pointer (some ⟨bb4, 0, none⟩)) hF1 (by kernel_rfl) (fun _ => by kernel_rfl) rfl fun a1 hF1 => ?_
      exact ⟨bb30, ((hF1.repl 16 (by kernel_rfl)).cast (by kernel_rfl)), (hM.cast (by kernel_rfl))⟩
     ·intro s0 s1 s2 s3 s4 s5 s6 s7 s8 s9 s10 s11 s12 s13 s14 s15 s16 s17 s18 s19 s20 s21 s22 s23 s24 hc hi hp a w hS
      obtain rfl : s7 = false := hi
      obtain rfl : s6 = true := hp 6 (by kernel_rfl)
      obtain ⟨bb30, hF1, hM⟩ := hS
      refine eP 39 (v0 := .pointer (some ⟨bb4, 4, none⟩)) (v := .pointer (some ⟨bb4, 4, none⟩)) hF1 (by kernel_rfl) (fun _ => by kernel_rfl) rfl fun a1 hF1 => ?_
      exact ⟨bb30, ((hF1.repl 17 (by kernel_rfl)).cast (by kernel_rfl)), (hM.cast (by kernel_rfl))⟩
     ·intro s0 s1 s2 s3 s4 s5 s6 s7 s8 s9 s10 s11 s12 s13 s14 s15 s16 s17 s18 s19 s20 s21 s22 s23 s24 hc hi hp a w hS
      obtain rfl : s8 = false := hi
      obtain rfl : s7 = true := hp 7 (by kernel_rfl)
      obtain ⟨bb30, hF1, hM⟩ := hS
      refine eL 40 8 4 (v := .slice A4 lm.length cm) hF1 hM (by kernel_rfl) rfl rfl (by kernel_rfl) (by kernel_rfl) fun a1 w hF1 hM => ?_
      exact ⟨bb30, ((hF1.repl 18 (by kernel_rfl)).cast (by kernel_rfl)), (hM.cast (by kernel_rfl))⟩
     ·intro s0 s1 s2 s3 s4 s5 s6 s7 s8 s9 s10 s11 s12 s13 s14 s15 s16 s17 s18 s19 s20 s21 s22 s23 s24 hc hi hp a w hS
      obtain rfl : s9 = false := hi
      obtain ⟨bb30, hF1, hM⟩ := hS
      refine eP 41 (v0 := .int .i64 (kk : Int)) (v := .int .i64 (kk : Int)) hF1 (by kernel_rfl) (fun _ => by kernel_rfl) rfl fun a1 hF1 => ?_
      exact ⟨bb30, ((hF1.repl 19 (by kernel_rfl)).cast (by kernel_rfl)), (hM.cast (by kernel_rfl))⟩
     ·intro s0 s1 s2 s3 s4 s5 s6 s7 s8 s9 s10 s11 s12 s13 s14 s15 s16 s17 s18 s19 s20 s21 s22 s23 s24 hc hi hp a w hS
      obtain rfl : s10 = false := hi
      obtain rfl : s9 = true := hp 9 (by kernel_rfl)
      obtain rfl : s8 = true := hp 8 (by kernel_rfl)
      obtain ⟨bb30, hF1, hM⟩ := hS
      refine eM 42 (v := .pointer (some (ea A4 (kk * 3)))) hF1 hM (by kernel_rfl) (yld_ix (kd := .i64) (e := 80) (len := lm.length) (cap := cm) (i := (kk : Int)) (size := 3) (A := A4) hF1 rfl (by kernel_rfl) (by kernel_rfl) (by kernel_rfl) (by kernel_rfl) (by kernel_rfl) (roK 4 rfl) (by omega) (by omega) (by rw [flatR_length hW4]; (try simp only [List.length_map, List.length_append, List.length_replicate, List.length_set, List.length_cons, List.length_nil, flat2_length, List.length_take]); omega)) fun a1 w hF1 hM => ?_
      exact ⟨bb30, ((hF1.repl 20 (by kernel_rfl)).cast (by kernel_rfl)), (hM.cast (by kernel_rfl))⟩
     ·intro s0 s1 s2 s3 s4 s5 s6 s7 s8 s9 s10 s11 s12 s13 s14 s15 s16 s17 s18 s19 s20 s21 s22 s23 s24 hc hi hp a w hS
      obtain rfl : s11 = false := hi
      obtain rfl : s10 = true := hp 10 (by kernel_rfl)
      obtain ⟨bb30, hF1, hM⟩ := hS
      refine eM 43 (v := .agg #[.int .i64 (rc lm kk 0), .int .i64 (rc lm kk 1), .int .i64 (rc lm kk 2)]) hF1 hM (by kernel_rfl) (yld_roM (A := A4) (j := kk * 3) (us := [.int .i64 (rc lm kk 0), .int .i64 (rc lm kk 1), .int .i64 (rc lm kk 2)]) hF1 rfl (by kernel_rfl) (by kernel_rfl) (roK 4 rfl) (by kernel_rfl) rfl (rc_sub (k := kk) (f := 0) (m := 3) hW4 (by omega) (by decide) rfl)) fun a1 w hF1 hM => ?_
      exact ⟨bb30, ((hF1.repl 21 (by kernel_rfl)).cast (by kernel_rfl)), (hM.cast (by kernel_rfl))⟩
     ·intro s0 s1 s2 s3 s4 s5 s6 s7 s8 s9 s10 s11 s12 s13 s14 s15 s16 s17 s18 s19 s20 s21 s22 s23 s24 hc hi hp a w hS
      obtain rfl : s12 = false := hi
      obtain ⟨bb30, hF1, hM⟩ := hS
      refine eP 44 (v0 := .int .i64 t) (v := .int .i64 t) hF1 (by kernel_rfl) (fun _ => by kernel_rfl) rfl fun a1 hF1 => ?_
      exact ⟨bb30, ((hF1.repl 22 (by kernel_rfl)).cast (by kernel_rfl)), (hM.cast (by kernel_rfl))⟩
     ·intro s0 s1 s2 s3 s4 s5 s6 s7 s8 s9 s10 s11 s12 s13 s14 s15 s16 s17 s18 s19 s20 s21 s22 s23 s24 hc hi hp a w hS
      obtain rfl : s13 = false := hi
      obtain rfl : s12 = true := hp 12 (by kernel_rfl)
      obtain ⟨bb30, hF1, hM⟩ := hS
      refine eP 45 (v0 := .int .i64 (IntKind.i64.wrap (t + 1000))) (v := .int .i64 (t + 1000)) hF1 (by kernel_rfl) (fun _ => by kernel_rfl) (wi (by omega)) fun a1 hF1 => ?_
      exact ⟨bb30, ((hF1.repl 23 (by kernel_rfl)).cast (by kernel_rfl)), (hM.cast (by kernel_rfl))⟩
     ·intro s0 s1 s2 s3 s4 s5 s6 s7 s8 s9 s10 s11 s12 s13 s14 s15 s16 s17 s18 s19 s20 s21 s22 s23 s24 hc hi hp a w hS
      obtain rfl : s14 = false := hi
      obtain ⟨bb30, hF1, hM⟩ := hS
      refine eP 46 (v0 := .pointer (some ⟨bb28, 3, none⟩)) (v := .pointer (some ⟨bb28, 3, none⟩)) hF1 (by kernel_rfl) (fun _ => by kernel_rfl) rfl fun a1 hF1 => ?_
      exact ⟨bb30, ((hF1.repl 24 (by kernel_rfl)).cast (by kernel_rfl)), (hM.cast (by kernel_rfl))⟩
     ·intro s0 s1 s2 s3 s4 s5 s6 s7 s8 s9 s10 s11 s12 s13 s14 s15 s16 s17 s18 s19 s20 s21 s22 s23 s24 hc hi hp a w hS
      obtain rfl : s15 = false := hi
      obtain rfl : s14 = true := hp 14 (by kernel_rfl)
      obtain ⟨bb30, hF1, hM⟩ := hS
      refine eL 47 32 3 (v := .int .i64 i4) hF1 hM (by kernel_rfl) rfl rfl (by kernel_rfl) (by kernel_rfl) fun a1 w hF1 hM => ?_
      exact ⟨bb30, ((hF1.repl 25 (by kernel_rfl)).cast (by kernel_rfl)), (hM.cast (by kernel_rfl))⟩
     ·intro s0 s1 s2 s3 s4 s5 s6 s7 s8 s9 s10 s11 s12 s13 s14 s15 s16 s17 s18 s19 s20 s21 s22 s23 s24 hc hi hp a w hS
      obtain rfl : s16 = false := hi
      obtain rfl : s15 = true := hp 15 (by kernel_rfl)
      obtain rfl : s13 = true := hp 13 (by kernel_rfl)
      obtain rfl : s11 = true := hp 11 (by kernel_rfl)
      obtain rfl : s3 = true := hp 3 (by kernel_rfl)
      obtain rfl : s1 = true := hp 1 (by kernel_rfl)
      obtain ⟨bb30, hF1, hM⟩ := hS
      refine eM 48 (v := .tuple #[.int .i64 (mkCol (rc lq kk 1) (rc lq kk 2) (rc lq kk 3) (rc lq kk 4) (rc lm kk 0) (rc lm kk 1) (rc lm kk 2) (t + 1000) i4), .agg #[.int .i64 (mkL (rc lq kk 1) (rc lq kk 2) (rc lq kk 3) (rc lq kk 4) (rc lm kk 0) (rc lm kk 1) (rc lm kk 2) (t + 1000) i4), .int .i64 (mkC (rc lq kk 1) (rc lq kk 2) (rc lq kk 3) (rc lq kk 4) (rc lm kk 0) (rc lm kk 1) (rc lm kk 2) (t + 1000) i4), .int .i64 (mkP (rc lq kk 1) (rc lq kk 2) (rc lq kk 3) (rc lq kk 4) (rc lm kk 0) (rc lm kk 1) (rc lm kk 2) (t + 1000) i4)], .int .i64 (mkE (rc lq kk 1) (rc lq kk 2) (rc lq kk 3) (rc lq kk 4) (rc lm kk 0) (rc lm kk 1) (rc lm kk 2) (t + 1000) i4)]) hF1 hM (by kernel_rfl) (yld_call (f := 55) (args := #[.agg #[.int .i64 (rc lq kk 1), .int .i64 (rc lq kk 2)], .agg #[.int .i64 (rc lq kk 3), .int .i64 (rc lq kk 4)], .agg #[.int .i64 (rc lm kk 0), .int .i64 (rc lm kk 1), .int .i64 (rc lm kk 2)], .int .i64 (t + 1000), .int .i64 i4]) hF1 (by kernel_rfl) (fun _ => by kernel_rfl) (fun w hM => meterMark_w (rc lq kk 1) (rc lq kk 2) (rc lq kk 3) (rc lq kk 4) (rc lm kk 0) (rc lm kk 1) (rc lm kk 2) (t + 1000) i4 w)) fun a1 w hF1 hM => ?_
      exact ⟨bb30, ((hF1.repl 26 (by kernel_rfl)).cast (by kernel_rfl)), (hM.cast (by kernel_rfl))⟩
     ·intro s0 s1 s2 s3 s4 s5 s6 s7 s8 s9 s10 s11 s12 s13 s14 s15 s16 s17 s18 s19 s20 s21 s22 s23 s24 hc hi hp a w hS
      obtain rfl : s17 = false := hi
      obtain rfl : s16 = true := hp 16 (by kernel_rfl)
      obtain ⟨bb30, hF1, hM⟩ := hS
      refine eP 31 (v0 := .tuple #[.int .i64 (mkCol (rc lq kk 1) (rc lq kk 2) (rc lq kk 3) (rc lq kk 4) (rc lm kk 0) (rc lm kk 1) (rc lm kk 2) (t + 1000) i4), .agg #[.int .i64 (mkL (rc lq kk 1) (rc lq kk 2) (rc lq kk 3) (rc lq kk 4) (rc lm kk 0) (rc lm kk 1) (rc lm kk 2) (t + 1000) i4), .int .i64 (mkC (rc lq kk 1) (rc lq kk 2) (rc lq kk 3) (rc lq kk 4) (rc lm kk 0) (rc lm kk 1) (rc lm kk 2) (t + 1000) i4), .int .i64 (mkP (rc lq kk 1) (rc lq kk 2) (rc lq kk 3) (rc lq kk 4) (rc lm kk 0) (rc lm kk 1) (rc lm kk 2) (t + 1000) i4)], .int .i64 (mkE (rc lq kk 1) (rc lq kk 2) (rc lq kk 3) (rc lq kk 4) (rc lm kk 0) (rc lm kk 1) (rc lm kk 2) (t + 1000) i4)]) (v := .tuple #[.int .i64 (mkCol (rc lq kk 1) (rc lq kk 2) (rc lq kk 3) (rc lq kk 4) (rc lm kk 0) (rc lm kk 1) (rc lm kk 2) (t + 1000) i4), .agg #[.int .i64 (mkL (rc lq kk 1) (rc lq kk 2) (rc lq kk 3) (rc lq kk 4) (rc lm kk 0) (rc lm kk 1) (rc lm kk 2) (t + 1000) i4), .int .i64 (mkC (rc lq kk 1) (rc lq kk 2) (rc lq kk 3) (rc lq kk 4) (rc lm kk 0) (rc lm kk 1) (rc lm kk 2) (t + 1000) i4), .int .i64 (mkP (rc lq kk 1) (rc lq kk 2) (rc lq kk 3) (rc lq kk 4) (rc lm kk 0) (rc lm kk 1) (rc lm kk 2) (t + 1000) i4)], .int .i64 (mkE (rc lq kk 1) (rc lq kk 2) (rc lq kk 3) (rc lq kk 4) (rc lm kk 0) (rc lm kk 1) (rc lm kk 2) (t + 1000) i4)]) hF1 (by kernel_rfl) (fun _ => by kernel_rfl) rfl fun a1 hF1 => ?_
      exact ⟨bb30, ((hF1.repl 9 (by kernel_rfl)).cast (by kernel_rfl)), (hM.cast (by kernel_rfl))⟩
     ·intro s0 s1 s2 s3 s4 s5 s6 s7 s8 s9 s10 s11 s12 s13 s14 s15 s16 s17 s18 s19 s20 s21 s22 s23 s24 hc hi hp a w hS
      obtain rfl : s18 = false := hi
      obtain rfl : s17 = true := hp 17 (by kernel_rfl)
      obtain ⟨bb30, hF1, hM⟩ := hS
      refine eP 49 (v0 := .int .i64 (mkCol (rc lq kk 1) (rc lq kk 2) (rc lq kk 3) (rc lq kk 4) (rc lm kk 0) (rc lm kk 1) (rc lm kk 2) (t + 1000) i4)) (v := .int .i64 (mkCol (rc lq kk 1) (rc lq kk 2) (rc lq kk 3) (rc lq kk 4) (rc lm kk 0) (rc lm kk 1) (rc lm kk 2) (t + 1000) i4)) hF1 (by kernel_rfl) (fun _ => by kernel_rfl) rfl fun a1 hF1 => ?_
      exact ⟨bb30, ((hF1.repl 27 (by kernel_rfl)).cast (by kernel_rfl)), (hM.cast (by kernel_rfl))⟩
     ·intro s0 s1 s2 s3 s4 s5 s6 s7 s8 s9 s10 s11 s12 s13 s14 s15 s16 s17 s18 s19 s20 s21 s22 s23 s24 hc hi hp a w hS
      obtain rfl : s19 = false := hi
      obtain rfl : s17 = true := hp 17 (by kernel_rfl)
      obtain ⟨bb30, hF1, hM⟩ := hS
      refine eP 50 (v0 := .agg #[.int .i64 (mkL (rc lq kk 1) (rc lq kk 2) (rc lq kk 3) (rc lq kk 4) (rc lm kk 0) (rc lm kk 1) (rc lm kk 2) (t + 1000) i4), .int .i64 (mkC (rc lq kk 1) (rc lq kk 2) (rc lq kk 3) (rc lq kk 4) (rc lm kk 0) (rc lm kk 1) (rc lm kk 2) (t + 1000) i4), .int .i64 (mkP (rc lq kk 1) (rc lq kk 2) (rc lq kk 3) (rc lq kk 4) (rc lm kk 0) (rc lm kk 1) (rc lm kk 2) (t + 1000) i4)]) (v := .agg #[.int .i64 (mkL (rc lq kk 1) (rc lq kk 2) (rc lq kk 3) (rc lq kk 4) (rc lm kk 0) (rc lm kk 1) (rc lm kk 2) (t + 1000) i4), .int .i64 (mkC (rc lq kk 1) (rc lq kk 2) (rc lq kk 3) (rc lq kk 4) (rc lm kk 0) (rc lm kk 1) (rc lm kk 2) (t + 1000) i4), .int .i64 (mkP (rc lq kk 1) (rc lq kk 2) (rc lq kk 3) (rc lq kk 4) (rc lm kk 0) (rc lm kk 1) (rc lm kk 2) (t + 1000) i4)]) hF1 (by kernel_rfl) (fun _ => by kernel_rfl) rfl fun a1 hF1 => ?_
      exact ⟨bb30, ((hF1.repl 28 (by kernel_rfl)).cast (by kernel_rfl)), (hM.cast (by kernel_rfl))⟩
     ·intro s0 s1 s2 s3 s4 s5 s6 s7 s8 s9 s10 s11 s12 s13 s14 s15 s16 s17 s18 s19 s20 s21 s22 s23 s24 hc hi hp a w hS
      obtain rfl : s20 = false := hi
      obtain rfl : s17 = true := hp 17 (by kernel_rfl)
      obtain ⟨bb30, hF1, hM⟩ := hS
      refine eP 51 (v0 := .int .i64 (mkE (rc lq kk 1) (rc lq kk 2) (rc lq kk 3) (rc lq kk 4) (rc lm kk 0) (rc lm kk 1) (rc lm kk 2) (t + 1000) i4)) (v := .int .i64 (mkE (rc lq kk 1) (rc lq kk 2) (rc lq kk 3) (rc lq kk 4) (rc lm kk 0) (rc lm kk 1) (rc lm kk 2) (t + 1000) i4)) hF1 (by kernel_rfl) (fun _ => by kernel_rfl) rfl fun a1 hF1 => ?_
      exact ⟨bb30, ((hF1.repl 29 (by kernel_rfl)).cast (by kernel_rfl)), (hM.cast (by kernel_rfl))⟩
     ·intro s0 s1 s2 s3 s4 s5 s6 s7 s8 s9 s10 s11 s12 s13 s14 s15 s16 s17 s18 s19 s20 s21 s22 s23 s24 hc hi hp a w hS
      obtain rfl : s21 = false := hi
      obtain rfl : s23 = false := hc.f 23 21 (by kernel_rfl) rfl
      obtain ⟨bb30, hF1, hM⟩ := hS
      refine eN 12 34 (t := 80) (fun b => .pointer (some ⟨b, 0, none⟩)) #[.int .i64 0, .int .i64 0, .int .i64 0] hF1 hM (by kernel_rfl) (fun _ => by kernel_rfl) fun bb30 a1 w hF1 hM => ?_
      exact ⟨bb30, ((hF1.repl 7 (by kernel_rfl)).cast (by kernel_rfl)), ((hM.repl 10 (by kernel_rfl)).cast (by kernel_rfl))⟩
     ·intro s0 s1 s2 s3 s4 s5 s6 s7 s8 s9 s10 s11 s12 s13 s14 s15 s16 s17 s18 s19 s20 s21 s22 s23 s24 hc hi hp a w hS
      obtain rfl : s22 = false := hi
      obtain rfl : s18 = true := hp 18 (by kernel_rfl)
      obtain ⟨bb30, hF1, hM⟩ := hS
      refine eP 11 (v0 := .int .i64 (mkCol (rc lq kk 1) (rc lq kk 2) (rc lq kk 3) (rc lq kk 4) (rc lm kk 0) (rc lm kk 1) (rc lm kk 2) (t + 1000) i4)) (v := .int .i64 (mkCol (rc lq kk 1) (rc lq kk 2) (rc lq kk 3) (rc lq kk 4) (rc lm kk 0) (rc lm kk 1) (rc lm kk 2) (t + 1000) i4)) hF1 (by kernel_rfl) (fun _ => by kernel_rfl) rfl fun a1 hF1 => ?_
      exact ⟨bb30, ((hF1.repl 6 (by kernel_rfl)).cast (by kernel_rfl)), (hM.cast (by kernel_rfl))⟩
     ·intro s0 s1 s2 s3 s4 s5 s6 s7 s8 s9 s10 s11 s12 s13 s14 s15 s16 s17 s18 s19 s20 s21 s22 s23 s24 hc hi hp a w hS
      obtain rfl : s23 = false := hi
      obtain rfl : s21 = true := hp 21 (by kernel_rfl)
      obtain rfl : s19 = true := hp 19 (by kernel_rfl)
      obtain ⟨bb30, hF1, hM⟩ := hS
      refine sStore (i := 34) (off := 0) (cs' := #[.int .i64 (mkL (rc lq kk 1) (rc lq kk 2) (rc lq kk 3) (rc lq kk 4) (rc lm kk 0) (rc lm kk 1) (rc lm kk 2) (t + 1000) i4), .int .i64 (mkC (rc lq kk 1) (rc lq kk 2) (rc lq kk 3) (rc lq kk 4) (rc lm kk 0) (rc lm kk 1) (rc lm kk 2) (t + 1000) i4), .int .i64 (mkP (rc lq kk 1) (rc lq kk 2) (rc lq kk 3) (rc lq kk 4) (rc lm kk 0) (rc lm kk 1) (rc lm kk 2) (t + 1000) i4)]) hF1 hM (by kernel_rfl) rfl rfl (by kernel_rfl) (by kernel_rfl) rfl (by kernel_rfl) fun w hM => ?_
      exact ⟨bb30, (hF1.cast (by kernel_rfl)), ((hM.repl 10 (by kernel_rfl)).cast (by kernel_rfl))⟩
     ·intro s0 s1 s2 s3 s4 s5 s6 s7 s8 s9 s10 s11 s12 s13 s14 s15 s16 s17 s18 s19 s20 s21 s22 s23 s24 hc hi hp a w hS
      obtain rfl : s24 = false := hi
      obtain rfl : s20 = true := hp 20 (by kernel_rfl)
      obtain ⟨bb30, hF1, hM⟩ := hS
      refine eP 13 (v0 := .int .i64 (mkE (rc lq kk 1) (rc lq kk 2) (rc lq kk 3) (rc lq kk 4) (rc lm kk 0) (rc lm kk 1) (rc lm kk 2) (t + 1000) i4)) (v := .int .i64 (mkE (rc lq kk 1) (rc lq kk 2) (rc lq kk 3) (rc lq kk 4) (rc lm kk 0) (rc lm kk 1) (rc lm kk 2) (t + 1000) i4)) hF1 (by kernel_rfl) (fun _ => by kernel_rfl) rfl fun a1 hF1 => ?_
      exact ⟨bb30, ((hF1.repl 8 (by kernel_rfl)).cast (by kernel_rfl)), (hM.cast (by kernel_rfl))⟩
    ·intro a1 w hS
     obtain ⟨bb30, hF1, hM⟩ := hS
     replace hF1 : Fr 68 [(0, some (.pointer (some ⟨bb4, 0, none⟩))), (3, some (.int .i64 t)), (6, some (.pointer (some ⟨bb28, 0, none⟩))), (8, some (.int .i64 0)), (9, some (.int .i64 (kk : Int))), (10, some (.pointer (some ⟨bb29, 0, none⟩))), (11, some (.int .i64 (mkCol (rc lq kk 1) (rc lq kk 2) (rc lq kk 3) (rc lq kk 4) (rc lm kk 0) (rc lm kk 1) (rc lm kk 2) (t + 1000) i4))), (12, some (.pointer (some ⟨bb30, 0, none⟩))), (13, some (.int .i64 (mkE (rc lq kk 1) (rc lq kk 2) (rc lq kk 3) (rc lq kk 4) (rc lm kk 0) (rc lm kk 1) (rc lm kk 2) (t + 1000) i4))), (31, some (.tuple #[.int .i64 (mkCol (rc lq kk 1) (rc lq kk 2) (rc lq kk 3) (rc lq kk 4) (rc lm kk 0) (rc lm kk 1) (rc lm kk 2) (t + 1000) i4), .agg #[.int .i64 (mkL (rc lq kk 1) (rc lq kk 2) (rc lq kk 3) (rc lq kk 4) (rc lm kk 0) (rc lm kk 1) (rc lm kk 2) (t + 1000) i4), .int .i64 (mkC (rc lq kk 1) (rc lq kk 2) (rc lq kk 3) (rc lq kk 4) (rc lm kk 0) (rc lm kk 1) (rc lm kk 2) (t + 1000) i4), .int .i64 (mkP (rc lq kk 1) (rc lq kk 2) (rc lq kk 3) (rc lq kk 4) (rc lm kk 0) (rc lm kk 1) (rc lm kk 2) (t + 1000) i4)], .int .i64 (mkE (rc lq kk 1) (rc lq kk 2) (rc lq kk 3) (rc lq kk 4) (rc lm kk 0) (rc lm kk 1) (rc lm kk 2) (t + 1000) i4)])), (32, some (.pointer (some ⟨bb29, 1, none⟩))), (33, some (.agg #[.int .i64 (rc lq kk 1), .int .i64 (rc lq kk 2)])), (34, some (.pointer (some ⟨bb29, 3, none⟩))), (35, some (.agg #[.int .i64 (rc lq kk 3), .int .i64 (rc lq kk 4)])), (36, some (.pointer (some ⟨bb4, 0, none⟩))), (37, some (.pointer (some ⟨bb4, 0, none⟩))), (38, some (.pointer (some ⟨bb4, 0, none⟩))), (39, some (.pointer (some ⟨bb4, 4, none⟩))), (40, some (.slice A4 lm.length cm)), (41, some (.int .i64 (kk : Int))), (42, some (.pointer (some (ea A4 (kk * 3))))), (43, some (.agg #[.int .i64 (rc lm kk 0), .int .i64 (rc lm kk 1), .int .i64 (rc lm kk 2)])), (44, some (.int .i64 t)), (45, some (.int .i64 (t + 1000))), (46, some (.pointer (some ⟨bb28, 3, none⟩))), (47, some (.int .i64 i4)), (48, some (.tuple #[.int .i64 (mkCol (rc lq kk 1) (rc lq kk 2) (rc lq kk 3) (rc lq kk 4) (rc lm kk 0) (rc lm kk 1) (rc lm kk 2) (t + 1000) i4), .agg #[.int .i64 (mkL (rc lq kk 1) (rc lq kk 2) (rc lq kk 3) (rc lq kk 4) (rc lm kk 0) (rc lm kk 1) (rc lm kk 2) (t + 1000) i4), .int .i64 (mkC (rc lq kk 1) (rc lq kk 2) (rc lq kk 3) (rc lq kk 4) (rc lm kk 0) (rc lm kk 1) (rc lm kk 2) (t + 1000) i4), .int .i64 (mkP (rc lq kk 1) (rc lq kk 2) (rc lq kk 3) (rc lq kk 4) (rc lm kk 0) (rc lm kk 1) (rc lm kk 2) (t + 1000) i4)], .int .i64 (mkE (rc lq kk 1) (rc lq kk 2) (rc lq kk 3) (rc lq kk 4) (rc lm kk 0) (rc lm kk 1) (rc lm kk 2) (t + 1000) i4)])), (49, some (.int .i64 (mkCol (rc lq kk 1) (rc lq kk 2) (rc lq kk 3) (rc lq kk 4) (rc lm kk 0) (rc lm kk 1) (rc lm kk 2) (t + 1000) i4))), (50, some (.agg #[.int .i64 (mkL (rc lq kk 1) (rc lq kk 2) (rc lq kk 3) (rc lq kk 4) (rc lm kk 0) (rc lm kk 1) (rc lm kk 2) (t + 1000) i4), .int .i64 (mkC (rc lq kk 1) (rc lq kk 2) (rc lq kk 3) (rc lq kk 4) (rc lm kk 0) (rc lm kk 1) (rc lm kk 2) (t + 1000) i4), .int .i64 (mkP (rc lq kk 1) (rc lq kk 2) (rc lq kk 3) (rc lq kk 4) (rc lm kk 0) (rc lm kk 1) (rc lm kk 2) (t + 1000) i4)])), (51, some (.int .i64 (mkE (rc lq kk 1) (rc lq kk 2) (rc lq kk 3) (rc lq kk 4) (rc lm kk 0) (rc lm kk 1) (rc lm kk 2) (t + 1000) i4)))] a1 := hF1.cast (by kernel_rfl)
     replace hM : Mem w0.heap.size w0 [(1, some (.ro A (flatR la))), (2, some (.ro A2 (flatR lq))), (3, some (.ro A3 (ls.map (Value.int .i64)))), (4, some (.ro A4 (flatR lm))), (5, some (.row bb1 27 #[.slice A la.length ca, .slice A2 lq.length cq_, .int .i64 now, .slice A3 ls.length cs, .slice A4 lm.length cm])), (6, some (.row bb2 39 #[.int .i64 i1, .int .i64 i2, .int .i64 i3, .int .i64 i4, .int .i64 i5])), (7, some (.row bb3 27 #[.slice none 0 0, .slice none 0 0, .int .i64 0, .slice none 0 0, .slice none 0 0])), (8, some (.row bb4 85 #[.slice A la.length ca, .slice A2 lq.length cq_, .int .i64 t, .slice A3 ls.length cs, .slice A4 lm.length cm])), (32, some (.row bb28 39 #[.int .i64 i1, .int .i64 i2, .int .i64 i3, .int .i64 i4, .int .i64 i5])), (33, some (.row bb29 69 #[.int .i64 (rc lq kk 0), .int .i64 (rc lq kk 1), .int .i64 (rc lq kk 2), .int .i64 (rc lq kk 3), .int .i64 (rc lq kk 4)])), (34, some (.row bb30 80 #[.int .i64 (mkL (rc lq kk 1) (rc lq kk 2) (rc lq kk 3) (rc lq kk 4) (rc lm kk 0) (rc lm kk 1) (rc lm kk 2) (t + 1000) i4), .int .i64 (mkC (rc lq kk 1) (rc lq kk 2) (rc lq kk 3) (rc lq kk 4) (rc lm kk 0) (rc lm kk 1) (rc lm kk 2) (t + 1000) i4), .int .i64 (mkP (rc lq kk 1) (rc lq kk 2) (rc lq kk 3) (rc lq kk 4) (rc lm kk 0) (rc lm kk 1) (rc lm kk 2) (t + 1000) i4)]))] w := hM.cast (by kernel_rfl)
     refine hK181 _ _ ?_
     refine wp_seq_k fun K182 hK182 => ?_
     refine wp_seq_k fun K183 hK183 => ?_
     refine wp_region_lit ?_
     refine sB 1 [(52, .int .i64 (mkE (rc lq kk 1) (rc lq kk 2) (rc lq kk 3) (rc lq kk 4) (rc lm kk 0) (rc lm kk 1) (rc lm kk 2) (t + 1000) i4))] hF1 (by kernel_rfl) fun a1 hF1 => ?_
     refine wl (eP 53 (v0 := .bool (!decide (mkE (rc lq kk 1) (rc lq kk 2) (rc lq kk 3) (rc lq kk 4) (rc lm kk 0) (rc lm kk 1) (rc lm kk 2) (t + 1000) i4 = 0))) (v := .bool false) hF1 (by kernel_rfl) (fun _ => by kernel_rfl) (nT hmk) fun a1 hF1 => ?_)
     refine wpList_nil ?_
     refine hK183 _ _ ?_
     refine cF hF1 (by kernel_rfl) (by kernel_rfl) ?_
     refine wp_skip ?_
     refine hK182 _ _ ?_
     refine wp_seq_k fun K184 hK184 => ?_
     refine rF (by kernel_rfl) (by kernel_rfl) (fun S a w => ∃ AA31 : Option Addr, ∃ cc31 : Nat, Fr 68 [(0, some (.pointer (some ⟨bb4, 0, none⟩))), (8, some (.int .i64 0)), (9, some (.int .i64 (kk : Int))), (11, some (.int .i64 (mkCol (rc lq kk 1) (rc lq kk 2) (rc lq kk 3) (rc lq kk 4) (rc lm kk 0) (rc lm kk 1) (rc lm kk 2) (t + 1000) i4))), (12, some (.pointer (some ⟨bb30, 0, none⟩))), (54, (cond (S.getD 0 false) (some (.pointer (some ⟨bb4, 0, none⟩))) none)), (55, (cond (S.getD 1 false) (some (.pointer (some ⟨bb4, 0, none⟩))) none)), (56, (cond (S.getD 2 false) (some (.pointer (some ⟨bb4, 0, none⟩))) none)), (57, (cond (S.getD 3 false) (some (.pointer (some ⟨bb4, 0, none⟩))) none)), (58, (cond (S.getD 4 false) (some (.pointer (some ⟨bb4, 4, none⟩))) none)), (59, (cond (S.getD 5 false) (some (.slice A4 lm.length cm)) none)), (60, (cond (S.getD 6 false) (some (.int .i64 (kk : Int))) none)), (61, (cond (S.getD 7 false) (some (.agg #[.int .i64 (mkL (rc lq kk 1) (rc lq kk 2) (rc lq kk 3) (rc lq kk 4) (rc lm kk 0) (rc lm kk 1) (rc lm kk 2) (t + 1000) i4), .int .i64 (mkC (rc lq kk 1) (rc lq kk 2) (rc lq kk 3) (rc lq kk 4) (rc lm kk 0) (rc lm kk 1) (rc lm kk 2) (t + 1000) i4), .int .i64 (mkP (rc lq kk 1) (rc lq kk 2) (rc lq kk 3) (rc lq kk 4) (rc lm kk 0) (rc lm kk 1) (rc lm kk 2) (t + 1000) i4)])) none)), (62, (cond (S.getD 8 false) (some (.slice AA31 lm.length cc31)) none)), (63, (cond (S.getD 9 false) (some (.pointer (some ⟨bb4, 0, none⟩))) none)), (64, (cond (S.getD 10 false) (some (.pointer (some ⟨bb4, 0, none⟩))) none)), (65, (cond (S.getD 11 false) (some (.pointer (some ⟨bb4, 4, none⟩))) none))] a ∧ Mem w0.heap.size w0 [(1, some (.ro A (flatR la))), (2, some (.ro A2 (flatR lq))), (3, some (.ro A3 (ls.map (Value.int .i64)))), (4, some (.ro A4 (flatR lm))), (5, some (.row bb1 27 #[.slice A la.length ca, .slice A2 lq.length cq_, .int .i64 now, .slice A3 ls.length cs, .slice A4 lm.length cm])), (6, some (.row bb2 39 #[.int .i64 i1, .int .i64 i2, .int .i64 i3, .int .i64 i4, .int .i64 i5])), (7, some (.row bb3 27 #[.slice none 0 0, .slice none 0 0, .int .i64 0, .slice none 0 0, .slice none 0 0])), (8, (cond (S.getD 12 false) (some (.row bb4 85 #[.slice A la.length ca, .slice A2 lq.length cq_, .int .i64 t, .slice A3 ls.length cs, .slice AA31 lm.length cc31])) (some (.row bb4 85 #[.slice A la.length ca, .slice A2 lq.length cq_, .int .i64 t, .slice A3 ls.length cs, .slice A4 lm.length cm])))), (34, some (.row bb30 80 #[.int .i64 (mkL (rc lq kk 1) (rc lq kk 2) (rc lq kk 3) (rc lq kk 4) (rc lm kk 0) (rc lm kk 1) (rc lm kk 2) (t + 1000) i4), .int .i64 (mkC (rc lq kk 1) (rc lq kk 2) (rc lq kk 3) (rc lq kk 4) (rc lm kk 0) (rc lm kk 1) (rc lm kk 2) (t + 1000) i4), .int .i64 (mkP (rc lq kk 1) (rc lq kk 2) (rc lq kk 3) (rc lq kk 4) (rc lm kk 0) (rc lm kk 1) (rc lm kk 2) (t + 1000) i4)])), (35, (cond (S.getD 8 false) (some (.own (.slice AA31 lm.length cc31) 80 3 lm.length (flatR ((lm).set kk [mkL (rc lq kk 1) (rc lq kk 2) (rc lq kk 3) (rc lq kk 4) (rc lm kk 0) (rc lm kk 1) (rc lm kk 2) (t + 1000) i4, mkC (rc lq kk 1) (rc lq kk 2) (rc lq kk 3) (rc lq kk 4) (rc lm kk 0) (rc lm kk 1) (rc lm kk 2) (t + 1000) i4, mkP (rc lq kk 1) (rc lq kk 2) (rc lq kk 3) (rc lq kk 4) (rc lm kk 0) (rc lm kk 1) (rc lm kk 2) (t + 1000) i4])))) none))] w) ?_ ?_ ?_
     ·exact ⟨none, 0, ((((((((((((((((((Fr.nil hF1).co hF1 (i := 65) (by kernel_rfl)).co hF1 (i := 64) (by kernel_rfl)).co hF1 (i := 63) (by kernel_rfl)).co hF1 (i := 62) (by kernel_rfl)).co hF1 (i := 61) (by kernel_rfl)).co hF1 (i := 60) (by kernel_rfl)).co hF1 (i := 59) (by kernel_rfl)).co hF1 (i := 58) (by kernel_rfl)).co hF1 (i := 57) (by kernel_rfl)).co hF1 (i := 56) (by kernel_rfl)).co hF1 (i := 55) (by kernel_rfl)).co hF1 (i := 54) (by kernel_rfl)).co hF1 (i := 12) (by kernel_rfl)).co hF1 (i := 11) (by kernel_rfl)).co hF1 (i := 9) (by kernel_rfl)).co hF1 (i := 8) (by kernel_rfl)).co hF1 (i := 0) (by kernel_rfl)), hM.drew.sub ((((((((((Sub.nil.co (k := 35) (by kernel_rfl)).co (k := 34) (by kernel_rfl)).co (k := 8) (by kernel_rfl)).co (k := 7) (by kernel_rfl)).co (k := 6) (by kernel_rfl)).co (k := 5) (by kernel_rfl)).co (k := 4) (by kernel_rfl)).co (k := 3) (by kernel_rfl)).co (k := 2) (by kernel_rfl)).co (k := 1) (by kernel_rfl))⟩
     ·refine stC ?_ (stC ?_ (stC ?_ (stC ?_ (stC ?_ (stC ?_ (stC ?_ (stC ?_ (stC ?_ (stC ?_ (stC ?_ (stC ?_ (stC ?_ (trivial)))))))))))))
      ·intro s0 s1 s2 s3 s4 s5 s6 s7 s8 s9 s10 s11 s12 hc hi hp a w hS
       obtain rfl : s0 = false := hi
       obtain rfl : s12 = false := hc.f 12 0 (by kernel_rfl) rfl
       obtain ⟨AA31, cc31, hF1, hM⟩ := hS
       refine eP 54 (v0 := .pointer (some ⟨bb4, 0, none⟩)) (v := .pointer (some ⟨bb4, 0, none⟩)) hF1 (by kernel_rfl) (fun _ => by kernel_rfl) rfl fun a1 hF1 => ?_
       exact ⟨AA31, cc31, ((hF1.repl 5 (by kernel_rfl)).cast (by kernel_rfl)), (hM.cast (by kernel_rfl))⟩
      ·intro s0 s1 s2 s3 s4 s5 s6 s7 s8 s9 s10 s11 s12 hc hi hp a w hS
       obtain rfl : s1 = false := hi
       obtain rfl : s12 = false := hc.f 12 1 (by kernel_rfl) rfl
       obtain ⟨AA31, cc31, hF1, hM⟩ := hS
       refine eP 55 (v0 := .pointer (some ⟨bb4, 0, none⟩)) (v := .pointer (some ⟨bb4, 0, none⟩)) hF1 (by kernel_rfl) (fun _ => by kernel_rfl) rfl fun a1 hF1 => ?_
       exact ⟨AA31, cc31, ((hF1.repl 6 (by kernel_rfl)).cast (by kernel_rfl)), (hM.cast (by kernel_rfl))⟩
      ·intro s0 s1 s2 s3 s4 s5 s6 s7 s8 s9 s10 s11 s12 hc hi hp a w hS
       obtain rfl : s2 = false := hi
       obtain rfl : s1 = true := hp 1 (by kernel_rfl)
       obtain rfl : s12 = false := hc.f 12 2 (by kernel_rfl) rfl
       obtain ⟨AA31, cc31, hF1, hM⟩ := hS
       refine eP 56 (v0 := .pointer (some ⟨bb4, 0, none⟩)) (v := .pointer (some ⟨bb4, 0, none⟩)) hF1 (by kernel_rfl) (fun _ => by kernel_rfl) rfl fun a1 hF1 => ?_
       exact ⟨AA31, cc31, ((hF1.repl 7 (by kernel_rfl)).cast (by kernel_rfl)), (hM.cast (by kernel_rfl))⟩
      ·intro s0 s1 s2 s3 s4 s5 s6 s7 s8 s9 s10 s11 s12 hc hi hp a w hS
       obtain rfl : s3 = false := hi
       obtain rfl : s2 = true := hp 2 (by kernel_rfl)
       obtain rfl : s12 = false := hc.f 12 3 (by kernel_rfl) rfl
       obtain ⟨AA31, cc31, hF1, hM⟩ := hS
       refine eP 57 (v0 := .pointer (some ⟨bb4, 0, none⟩)) (v := .pointer (some ⟨bb4, 0, none⟩)) hF1 (by kernel_rfl) (fun _ => by kernel_rfl) rfl fun a1 hF1 => ?_
       exact ⟨AA31, cc31, ((hF1.repl 8 (by kernel_rfl)).cast (by kernel_rfl)), (hM.cast (by kernel_rfl))⟩
      ·intro s0 s1 s2 s3 s4 s5 s6 s7 s8 s9 s10 s11 s12 hc hi hp a w hS
       obtain rfl : s4 = false := hi
       obtain rfl : s3 = true := hp 3 (by kernel_rfl)
       obtain rfl : s12 = false := hc.f 12 4 (by kernel_rfl) rfl
       obtain ⟨AA31, cc31, hF1, hM⟩ := hS
       refine eP 58 (v0 := .pointer (some ⟨bb4, 4, none⟩)) (v := .pointer (some ⟨bb4, 4, none⟩)) hF1 (by kernel_rfl) (fun _ => by kernel_rfl) rfl fun a1 hF1 => ?_
       exact ⟨AA31, cc31, ((hF1.repl 9 (by kernel_rfl)).cast (by kernel_rfl)), (hM.cast (by kernel_rfl))⟩
      ·intro s0 s1 s2 s3 s4 s5 s6 s7 s8 s9 s10 s11 s12 hc hi hp a w hS
       obtain rfl : s5 = false := hi
       obtain rfl : s4 = true := hp 4 (by kernel_rfl)
       obtain rfl : s12 = false := hc.f 12 5 (by kernel_rfl) rfl
       obtain ⟨AA31, cc31, hF1, hM⟩ := hS
       refine eL 59 8 4 (v := .slice A4 lm.length cm) hF1 hM (by kernel_rfl) rfl rfl (by kernel_rfl) (by kernel_rfl) fun a1 w hF1 hM => ?_
       exact ⟨AA31, cc31, ((hF1.repl 10 (by kernel_rfl)).cast (by kernel_rfl)), (hM.cast (by kernel_rfl))⟩
      ·intro s0 s1 s2 s3 s4 s5 s6 s7 s8 s9 s10 s11 s12 hc hi hp a w hS
       obtain rfl : s6 = false := hi
       obtain ⟨AA31, cc31, hF1, hM⟩ := hS
       refine eP 60 (v0 := .int .i64 (kk : Int)) (v := .int .i64 (kk : Int)) hF1 (by kernel_rfl) (fun _ => by kernel_rfl) rfl fun a1 hF1 => ?_
       exact ⟨AA31, cc31, ((hF1.repl 11 (by kernel_rfl)).cast (by kernel_rfl)), (hM.cast (by kernel_rfl))⟩
      ·intro s0 s1 s2 s3 s4 s5 s6 s7 s8 s9 s10 s11 s12 hc hi hp a w hS
       obtain rfl : s7 = false := hi
       obtain ⟨AA31, cc31, hF1, hM⟩ := hS
       refine eL 61 34 0 (v := .agg #[.int .i64 (mkL (rc lq kk 1) (rc lq kk 2) (rc lq kk 3) (rc lq kk 4) (rc lm kk 0) (rc lm kk 1) (rc lm kk 2) (t + 1000) i4), .int .i64 (mkC (rc lq kk 1) (rc lq kk 2) (rc lq kk 3) (rc lq kk 4) (rc lm kk 0) (rc lm kk 1) (rc lm kk 2) (t + 1000) i4), .int .i64 (mkP (rc lq kk 1) (rc lq kk 2) (rc lq kk 3) (rc lq kk 4) (rc lm kk 0) (rc lm kk 1) (rc lm kk 2) (t + 1000) i4)]) hF1 hM (by kernel_rfl) rfl rfl (by kernel_rfl) (by kernel_rfl) fun a1 w hF1 hM => ?_
       exact ⟨AA31, cc31, ((hF1.repl 12 (by kernel_rfl)).cast (by kernel_rfl)), (hM.cast (by kernel_rfl))⟩
      ·intro s0 s1 s2 s3 s4 s5 s6 s7 s8 s9 s10 s11 s12 hc hi hp a w hS
       obtain rfl : s8 = false := hi
       obtain rfl : s7 = true := hp 7 (by kernel_rfl)
       obtain rfl : s6 = true := hp 6 (by kernel_rfl)
       obtain rfl : s5 = true := hp 5 (by kernel_rfl)
       obtain rfl : s12 = false := hc.f 12 8 (by kernel_rfl) rfl
       obtain ⟨AA31, cc31, hF1, hM⟩ := hS
       refine sOwn 35 (f := 56) (args := #[.slice A4 lm.length cm, .int .i64 (kk : Int), .agg #[.int .i64 (mkL (rc lq kk 1) (rc lq kk 2) (rc lq kk 3) (rc lq kk 4) (rc lm kk 0) (rc lm kk 1) (rc lm kk 2) (t + 1000) i4), .int .i64 (mkC (rc lq kk 1) (rc lq kk 2) (rc lq kk 3) (rc lq kk 4) (rc lm kk 0) (rc lm kk 1) (rc lm kk 2) (t + 1000) i4), .int .i64 (mkP (rc lq kk 1) (rc lq kk 2) (rc lq kk 3) (rc lq kk 4) (rc lm kk 0) (rc lm kk 1) (rc lm kk 2) (t + 1000) i4)]]) (mk := (fun v => v)) (e := 80) (size := 3) (m := lm.length) (xs := (flatR ((lm).set kk [mkL (rc lq kk 1) (rc lq kk 2) (rc lq kk 3) (rc lq kk 4) (rc lm kk 0) (rc lm kk 1) (rc lm kk 2) (t + 1000) i4, mkC (rc lq kk 1) (rc lq kk 2) (rc lq kk 3) (rc lq kk 4) (rc lm kk 0) (rc lm kk 1) (rc lm kk 2) (t + 1000) i4, mkP (rc lq kk 1) (rc lq kk 2) (rc lq kk 3) (rc lq kk 4) (rc lm kk 0) (rc lm kk 1) (rc lm kk 2) (t + 1000) i4]))) hF1 hM (by kernel_rfl) rfl (by decide) (by kernel_rfl) (fun _ => by kernel_rfl) (replM_w A4 lm cm kk (mkL (rc lq kk 1) (rc lq kk 2) (rc lq kk 3) (rc lq kk 4) (rc lm kk 0) (rc lm kk 1) (rc lm kk 2) (t + 1000) i4) (mkC (rc lq kk 1) (rc lq kk 2) (rc lq kk 3) (rc lq kk 4) (rc lm kk 0) (rc lm kk 1) (rc lm kk 2) (t + 1000) i4) (mkP (rc lq kk 1) (rc lq kk 2) (rc lq kk 3) (rc lq kk 4) (rc lm kk 0) (rc lm kk 1) (rc lm kk 2) (t + 1000) i4) w (hM.ok 4 _ rfl) hW4 (by omega) (by omega)) fun AA31 cc31 a1 w hF1 hM => ?_
       exact ⟨AA31, cc31, ((hF1.repl 13 (by kernel_rfl)).cast (by kernel_rfl)), ((hM.repl 9 (by kernel_rfl)).cast (by kernel_rfl))⟩
      ·intro s0 s1 s2 s3 s4 s5 s6 s7 s8 s9 s10 s11 s12 hc hi hp a w hS
       obtain rfl : s9 = false := hi
       obtain rfl : s0 = true := hp 0 (by kernel_rfl)
       obtain rfl : s10 = false := hc.f 10 9 (by kernel_rfl) rfl
       obtain rfl : s11 = false := hc.f 11 10 (by kernel_rfl) rfl
       obtain rfl : s12 = false := hc.f 12 11 (by kernel_rfl) rfl
       obtain ⟨AA31, cc31, hF1, hM⟩ := hS
       refine eP 63 (v0 := .pointer (some ⟨bb4, 0, none⟩)) (v := .pointer (some ⟨bb4, 0, none⟩)) hF1 (by kernel_rfl) (fun _ => by kernel_rfl) rfl fun a1 hF1 => ?_
       exact ⟨AA31, cc31, ((hF1.repl 14 (by kernel_rfl)).cast (by kernel_rfl)), (hM.cast (by kernel_rfl))⟩
      ·intro s0 s1 s2 s3 s4 s5 s6 s7 s8 s9 s10 s11 s12 hc hi hp a w hS
       obtain rfl : s10 = false := hi
       obtain rfl : s9 = true := hp 9 (by kernel_rfl)
       obtain rfl : s11 = false := hc.f 11 10 (by kernel_rfl) rfl
       obtain rfl : s12 = false := hc.f 12 11 (by kernel_rfl) rfl
       obtain ⟨AA31, cc31, hF1, hM⟩ := hS
       refine eP 64 (v0 := .pointer (some ⟨bb4, 0, none⟩)) (v := .pointer (some ⟨bb4, 0, none⟩)) hF1 (by kernel_rfl) (fun _ => by kernel_rfl) rfl fun a1 hF1 => ?_
       exact ⟨AA31, cc31, ((hF1.repl 15 (by kernel_rfl)).cast (by kernel_rfl)), (hM.cast (by kernel_rfl))⟩
      ·intro s0 s1 s2 s3 s4 s5 s6 s7 s8 s9 s10 s11 s12 hc hi hp a w hS
       obtain rfl : s11 = false := hi
       obtain rfl : s10 = true := hp 10 (by kernel_rfl)
       obtain rfl : s12 = false := hc.f 12 11 (by kernel_rfl) rfl
       obtain ⟨AA31, cc31, hF1, hM⟩ := hS
       refine eP 65 (v0 := .pointer (some ⟨bb4, 4, none⟩)) (v := .pointer (some ⟨bb4, 4, none⟩)) hF1 (by kernel_rfl) (fun _ => by kernel_rfl) rfl fun a1 hF1 => ?_
       exact ⟨AA31, cc31, ((hF1.repl 16 (by kernel_rfl)).cast (by kernel_rfl)), (hM.cast (by kernel_rfl))⟩
      ·intro s0 s1 s2 s3 s4 s5 s6 s7 s8 s9 s10 s11 s12 hc hi hp a w hS
       obtain rfl : s12 = false := hi
       obtain rfl : s11 = true := hp 11 (by kernel_rfl)
       obtain rfl : s8 = true := hp 8 (by kernel_rfl)
       obtain ⟨AA31, cc31, hF1, hM⟩ := hS
       refine sStore (i := 8) (off := 4) (cs' := #[.slice A la.length ca, .slice A2 lq.length cq_, .int .i64 t, .slice A3 ls.length cs, .slice AA31 lm.length cc31]) hF1 hM (by kernel_rfl) rfl rfl (by kernel_rfl) (by kernel_rfl) rfl (by kernel_rfl) fun w hM => ?_
       exact ⟨AA31, cc31, (hF1.cast (by kernel_rfl)), ((hM.repl 7 (by kernel_rfl)).cast (by kernel_rfl))⟩
     ·intro a1 w hS
      obtain ⟨AA31, cc31, hF1, hM⟩ := hS
      replace hF1 : Fr 68 [(0, some (.pointer (some ⟨bb4, 0, none⟩))), (8, some (.int .i64 0)), (9, some (.int .i64 (kk : Int))), (11, some (.int .i64 (mkCol (rc lq kk 1) (rc lq kk 2) (rc lq kk 3) (rc lq kk 4) (rc lm kk 0) (rc lm kk 1) (rc lm kk 2) (t + 1000) i4))), (12, some (.pointer (some ⟨bb30, 0, none⟩))), (54, some (.pointer (some ⟨bb4, 0, none⟩))), (55, some (.pointer (some ⟨bb4, 0, none⟩))), (56, some (.pointer (some ⟨bb4, 0, none⟩))), (57, some (.pointer (some ⟨bb4, 0, none⟩))), (58, some (.pointer (some ⟨bb4, 4, none⟩))), (59, some (.slice A4 lm.length cm)), (60, some (.int .i64 (kk : Int))), (61, some (.agg #[.int .i64 (mkL (rc lq kk 1) (rc lq kk 2) (rc lq kk 3) (rc lq kk 4) (rc lm kk 0) (rc lm kk 1) (rc lm kk 2) (t + 1000) i4), .int .i64 (mkC (rc lq kk 1) (rc lq kk 2) (rc lq kk 3) (rc lq kk 4) (rc lm kk 0) (rc lm kk 1) (rc lm kk 2) (t + 1000) i4), .int .i64 (mkP (rc lq kk 1) (rc lq kk 2) (rc lq kk 3) (rc lq kk 4) (rc lm kk 0) (rc lm kk 1) (rc lm kk 2) (t + 1000) i4)])), (62, some (.slice AA31 lm.length cc31)), (63, some (.pointer (some ⟨bb4, 0, none⟩))), (64, some (.pointer (some ⟨bb4, 0, none⟩))), (65, some (.pointer (some ⟨bb4, 4, none⟩)))] a1 := hF1.cast (by kernel_rfl)
      replace hM : Mem w0.heap.size w0 [(1, some (.ro A (flatR la))), (2, some (.ro A2 (flatR lq))), (3, some (.ro A3 (ls.map (Value.int .i64)))), (4, some (.ro A4 (flatR lm))), (5, some (.row bb1 27 #[.slice A la.length ca, .slice A2 lq.length cq_, .int .i64 now, .slice A3 ls.length cs, .slice A4 lm.length cm])), (6, some (.row bb2 39 #[.int .i64 i1, .int .i64 i2, .int .i64 i3, .int .i64 i4, .int .i64 i5])), (7, some (.row bb3 27 #[.slice none 0 0, .slice none 0 0, .int .i64 0, .slice none 0 0, .slice none 0 0])), (8, some (.row bb4 85 #[.slice A la.length ca, .slice A2 lq.length cq_, .int .i64 t, .slice A3 ls.length cs, .slice AA31 lm.length cc31])), (34, some (.row bb30 80 #[.int .i64 (mkL (rc lq kk 1) (rc lq kk 2) (rc lq kk 3) (rc lq kk 4) (rc lm kk 0) (rc lm kk 1) (rc lm kk 2) (t + 1000) i4), .int .i64 (mkC (rc lq kk 1) (rc lq kk 2) (rc lq kk 3) (rc lq kk 4) (rc lm kk 0) (rc lm kk 1) (rc lm kk 2) (t + 1000) i4), .int .i64 (mkP (rc lq kk 1) (rc lq kk 2) (rc lq kk 3) (rc lq kk 4) (rc lm kk 0) (rc lm kk 1) (rc lm kk 2) (t + 1000) i4)])), (35, some (.own (.slice AA31 lm.length cc31) 80 3 lm.length (flatR ((lm).set kk [mkL (rc lq kk 1) (rc lq kk 2) (rc lq kk 3) (rc lq kk 4) (rc lm kk 0) (rc lm kk 1) (rc lm kk 2) (t + 1000) i4, mkC (rc lq kk 1) (rc lq kk 2) (rc lq kk 3) (rc lq kk 4) (rc lm kk 0) (rc lm kk 1) (rc lm kk 2) (t + 1000) i4, mkP (rc lq kk 1) (rc lq kk 2) (rc lq kk 3) (rc lq kk 4) (rc lm kk 0) (rc lm kk 1) (rc lm kk 2) (t + 1000) i4]))))] w := hM.cast (by kernel_rfl)
      refine hK184 _ _ ?_
      refine wp_seq_k fun K185 hK185 => ?_
      refine wp_seq_k fun K186 hK186 => ?_
      refine wp_region_lit ?_
      refine sB 2 [(66, .int .i64 (mkCol (rc lq kk 1) (rc lq kk 2) (rc lq kk 3) (rc lq kk 4) (rc lm kk 0) (rc lm kk 1) (rc lm kk 2) (t + 1000) i4)), (67, .bool (decide (mkCol (rc lq kk 1) (rc lq kk 2) (rc lq kk 3) (rc lq kk 4) (rc lm kk 0) (rc lm kk 1) (rc lm kk 2) (t + 1000) i4 = 2)))] hF1 (by kernel_rfl) fun a1 hF1 => ?_
      refine wpList_nil ?_
      refine hK186 _ _ ?_
      by_cases hz23 : mkCol (rc lq kk 1) (rc lq kk 2) (rc lq kk 3) (rc lq kk 4) (rc lm kk 0) (rc lm kk 1) (rc lm kk 2) (t + 1000) i4 = 2
      ·skip
       replace hF1 := hF1.c hF1 (i := 67) (v := .bool true) rfl (bT hz23)
       refine cT hF1 (by kernel_rfl) (by kernel_rfl) ?_
       refine wp_seq_k fun K187 hK187 => ?_
       refine wp_region_lit ?_
       refine sB 1 [(8, .int .i64 5)] hF1 (by kernel_rfl) fun a1 hF1 => ?_
       refine wpList_nil ?_
       refine hK187 _ _ ?_
       refine wp_ret ?_
       refine hR173 _ _ ?_
       refine ret_of hF1 hM (.tmp rfl (.nil)) ⟨_, rfl, ?_⟩
       intro a hF
       refine sB 1 [(14, .int .i64 5)] hF (by kernel_rfl) fun a hF => ?_
       refine wpList_nil ?_
       refine hK172 _ _ ?_
       refine wp_seq_k fun K188 hK188 => ?_
       refine wp_region_lit ?_
       refine sB 1 [(55, .pointer (some ⟨bb4, 0, none⟩))] hF (by kernel_rfl) fun a hF => ?_
       refine wl (eL 56 8 0 (v := .agg #[.slice A la.length ca, .slice A2 lq.length cq_, .int .i64 t, .slice A3 ls.length cs, .slice AA31 lm.length cc31]) hF hM (by kernel_rfl) rfl rfl (by kernel_rfl) (by kernel_rfl) fun a w hF hM => ?_)
       refine sB 1 [(57, .int .i64 5)] hF (by kernel_rfl) fun a hF => ?_
       refine wl (sStore (i := 7) (off := 0) (cs' := #[.slice A la.length ca, .slice A2 lq.length cq_, .int .i64 t, .slice A3 ls.length cs, .slice AA31 lm.length cc31]) hF hM (by kernel_rfl) rfl rfl (by kernel_rfl) (by kernel_rfl) rfl (by kernel_rfl) fun w hM => ?_)
       refine sB 2 [(9, .int .i64 5), (10, .int .i64 0)] hF (by kernel_rfl) fun a hF => ?_
       refine wpList_nil ?_
       refine hK188 _ _ ?_
       refine wp_ret ?_
       refine hR0 _ _ ?_
       refine ret_of hF hM (.cell (i := 7) rfl rfl (v := .agg #[.slice A la.length ca, .slice A2 lq.length cq_, .int .i64 t, .slice A3 ls.length cs, .slice AA31 lm.length cc31]) (by kernel_rfl) (.tmp rfl (.tmp rfl (.nil)))) ?_
       have e2 := e.symm.trans (show psR la lq ls lm port i1 i3 i4 t = (ls, (lm).set kk [mkL (rc lq kk 1) (rc lq kk 2) (rc lq kk 3) (rc lq kk 4) (rc lm kk 0) (rc lm kk 1) (rc lm kk 2) (t + 1000) i4, mkC (rc lq kk 1) (rc lq kk 2) (rc lq kk 3) (rc lq kk 4) (rc lm kk 0) (rc lm kk 1) (rc lm kk 2) (t + 1000) i4, mkP (rc lq kk 1) (rc lq kk 2) (rc lq kk 3) (rc lq kk 4) (rc lm kk 0) (rc lm kk 1) (rc lm kk 2) (t + 1000) i4], 5) from by unfold psR psM; rw [if_pos (show i3 ≤ 5 by omega), if_neg (show ¬ polI port lq < 0 by omega), hkk, Int.toNat_natCast]; unfold pcol pnew; rw [if_pos hz23])
       have eq1 := (Prod.mk.inj e2).1
       have eq2 := (Prod.mk.inj (Prod.mk.inj e2).2).1
       have eq3 := (Prod.mk.inj (Prod.mk.inj e2).2).2
       clear e2 e
       subst eq1 eq2 eq3
       subst e3 e4
       exact ⟨_, _, _, _, rfl, hM.roSame (k := 3) rfl, hM.ownNew (k := 35) rfl, hM.bel⟩
      ·skip
       replace hF1 := hF1.c hF1 (i := 67) (v := .bool false) rfl (bF hz23)
       refine cF hF1 (by kernel_rfl) (by kernel_rfl) ?_
       refine wp_skip ?_
       refine hK185 _ _ ?_
       refine wp_seq_k fun K189 hK189 => ?_
       refine wp_region_lit ?_
       refine sB 1 [(8, .int .i64 0)] hF1 (by kernel_rfl) fun a1 hF1 => ?_
       refine wpList_nil ?_
       refine hK189 _ _ ?_
       refine wp_ret ?_
       refine hR173 _ _ ?_
       refine ret_of hF1 hM (.tmp rfl (.nil)) ⟨_, rfl, ?_⟩
       intro a hF
       refine sB 1 [(14, .int .i64 0)] hF (by kernel_rfl) fun a hF => ?_
       refine wpList_nil ?_
       refine hK172 _ _ ?_
       refine wp_seq_k fun K190 hK190 => ?_
       refine wp_region_lit ?_
       refine sB 1 [(55, .pointer (some ⟨bb4, 0, none⟩))] hF (by kernel_rfl) fun a hF => ?_
       refine wl (eL 56 8 0 (v := .agg #[.slice A la.length ca, .slice A2 lq.length cq_, .int .i64 t, .slice A3 ls.length cs, .slice AA31 lm.length cc31]) hF hM (by kernel_rfl) rfl rfl (by kernel_rfl) (by kernel_rfl) fun a w hF hM => ?_)
       refine sB 1 [(57, .int .i64 0)] hF (by kernel_rfl) fun a hF => ?_
       refine wl (sStore (i := 7) (off := 0) (cs' := #[.slice A la.length ca, .slice A2 lq.length cq_, .int .i64 t, .slice A3 ls.length cs, .slice AA31 lm.length cc31]) hF hM (by kernel_rfl) rfl rfl (by kernel_rfl) (by kernel_rfl) rfl (by kernel_rfl) fun w hM => ?_)
       refine sB 2 [(9, .int .i64 0), (10, .int .i64 0)] hF (by kernel_rfl) fun a hF => ?_
       refine wpList_nil ?_
       refine hK190 _ _ ?_
       refine wp_ret ?_
       refine hR0 _ _ ?_
       refine ret_of hF hM (.cell (i := 7) rfl rfl (v := .agg #[.slice A la.length ca, .slice A2 lq.length cq_, .int .i64 t, .slice A3 ls.length cs, .slice AA31 lm.length cc31]) (by kernel_rfl) (.tmp rfl (.tmp rfl (.nil)))) ?_
       have e2 := e.symm.trans (show psR la lq ls lm port i1 i3 i4 t = (ls, (lm).set kk [mkL (rc lq kk 1) (rc lq kk 2) (rc lq kk 3) (rc lq kk 4) (rc lm kk 0) (rc lm kk 1) (rc lm kk 2) (t + 1000) i4, mkC (rc lq kk 1) (rc lq kk 2) (rc lq kk 3) (rc lq kk 4) (rc lm kk 0) (rc lm kk 1) (rc lm kk 2) (t + 1000) i4, mkP (rc lq kk 1) (rc lq kk 2) (rc lq kk 3) (rc lq kk 4) (rc lm kk 0) (rc lm kk 1) (rc lm kk 2) (t + 1000) i4], 0) from by unfold psR psM; rw [if_pos (show i3 ≤ 5 by omega), if_neg (show ¬ polI port lq < 0 by omega), hkk, Int.toNat_natCast]; unfold pcol pnew; rw [if_neg hz23])
       have eq1 := (Prod.mk.inj e2).1
       have eq2 := (Prod.mk.inj (Prod.mk.inj e2).2).1
       have eq3 := (Prod.mk.inj (Prod.mk.inj e2).2).2
       clear e2 e
       subst eq1 eq2 eq3
       subst e3 e4
       exact ⟨_, _, _, _, rfl, hM.roSame (k := 3) rfl, hM.ownNew (k := 35) rfl, hM.bel⟩

end Go.Proofs.Ytogeficooemngaa
