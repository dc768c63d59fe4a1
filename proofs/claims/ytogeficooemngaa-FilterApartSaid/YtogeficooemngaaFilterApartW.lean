/-
  Other frames do not affect the verdict.
-/
import Derived.Test.YtogeficooemngaaFiT
import Derived.Test.YtogeficooemngaaOpenRec
namespace Go.Proofs.Ytogeficooemngaa
open Go.RowKit
set_option linter.unusedVariables false
set_option linter.unusedSimpArgs false

def AInv (la : List (List Int)) (l0 l : List Int) (port i1 i3 : Int) : Prop := ∀ k, k < la.length → (rc la k 0 = port ∧ rc la k 1 = i1 ∧ rc la k 2 = i3) → nt l k = nt l0 k
theorem AInv.step {la lq : List (List Int)} {l0 l pl : List Int} {m pm : List (List Int)} {port i1 i3 port' i1' i3' i4' t pv : Int} (h : AInv la l0 l port i1 i3) (hl : l.length = la.length) (e : psR la lq l m port' i1' i3' i4' t = (pl, pm, pv)) (hn : ¬ (i3' = i3 ∧ i1' = i1 ∧ port' = port ∧ pv = 0)) : AInv la l0 pl port i1 i3 := by
  rcases psR_cases e with ⟨_, rfl, _⟩ | ⟨_, _, e'⟩
  · exact h
  · rcases psA_cases e' with ⟨rfl, _⟩ | ⟨k, _, hk, hr, _, _, _, _, _, rfl, hv⟩
    · exact h
    · intro j hj hjr
      rw [nt_set (by omega)]
      by_cases ej : j = k
      · subst ej
        exact absurd ⟨hr.2.2.symm.trans hjr.2.2, hr.2.1.symm.trans hjr.2.1, hr.1.symm.trans hjr.1, hv⟩ hn
      · rw [if_neg ej]
        exact h j hj hjr
theorem psA_verd {la : List (List Int)} {l0 l : List Int} {port i1 i3 i4 t : Int} (h : AInv la l0 l port i1 i3) : (psA la l port i1 i3 i4 t).2 = (psA la l0 port i1 i3 i4 t).2 := by
  unfold psA
  by_cases hn : regI port i1 i3 la < 0
  · rw [if_pos hn, if_pos hn]
  · obtain ⟨k, h1, h2, h3, _⟩ := reg_pos hn
    rw [if_neg hn, if_neg hn, h1, Int.toNat_natCast, h k h2 h3]
    split
    · rfl
    · split
      · rfl
      · split
        · rfl
        · split <;> rfl
theorem AInv.verd {la lq : List (List Int)} {l0 l a b : List Int} {m m0 x y : List (List Int)} {port i1 i3 i4 t v v' : Int} (h : AInv la l0 l port i1 i3) (h6 : ¬ i3 ≤ 5) (e : psR la lq l0 m0 port i1 i3 i4 t = (a, x, v)) (e' : psR la lq l m port i1 i3 i4 t = (b, y, v')) : v' = v := by
  rcases psR_cases e with ⟨q, _⟩ | ⟨_, _, e1⟩
  · exact absurd q h6
  · rcases psR_cases e' with ⟨q, _⟩ | ⟨_, _, e2⟩
    · exact absurd q h6
    · have := psA_verd (i4 := i4) (t := t) h
      rw [e1, e2] at this
      exact this
def FrB (l : List (List Int)) : Prop := ∀ k, k < l.length → (0 ≤ rc l k 0 ∧ rc l k 0 ≤ 65535) ∧ (0 ≤ rc l k 1 ∧ rc l k 1 ≤ 255) ∧ (0 ≤ rc l k 2 ∧ rc l k 2 ≤ 255) ∧ (0 ≤ rc l k 3 ∧ rc l k 3 ≤ 255) ∧ (0 ≤ rc l k 4 ∧ rc l k 4 ≤ 255)
theorem FrB.take {l : List (List Int)} {m : Nat} (h : FrB l) : FrB (l.take m) := fun k hk => by
  rw [List.length_take] at hk
  have e : ∀ j, rc (l.take m) k j = rc l k j := fun j => by unfold rc; rw [List.getElem?_take, if_pos (by omega)]
  rw [e, e, e, e, e]
  exact h k (by omega)
theorem fr_bd {l : List (List Int)} (h : FrB l) {k : Nat} (hk : k < l.length) : (0 ≤ rc l k 0 ∧ rc l k 0 ≤ 65535) ∧ (0 ≤ rc l k 1 ∧ rc l k 1 ≤ 255) ∧ (0 ≤ rc l k 2 ∧ rc l k 2 ≤ 255) ∧ (0 ≤ rc l k 3 ∧ rc l k 3 ≤ 255) ∧ (0 ≤ rc l k 4 ∧ rc l k 4 ≤ 255) := h k hk
theorem FrB.of {l : List (List Int)} (h : ∀ k, k < l.length → ∀ i kd, ([.u16, .u8, .u8, .u8, .u8] : List IntKind)[i]? = some kd → (Lit.int kd (rc l k i)).wf = true) : FrB l := fun k hk => by
  have h0 := bounds_u16 (h k hk 0 .u16 rfl)
  have h1 := bounds_u8 (h k hk 1 .u8 rfl)
  have h2 := bounds_u8 (h k hk 2 .u8 rfl)
  have h3 := bounds_u8 (h k hk 3 .u8 rfl)
  have h4 := bounds_u8 (h k hk 4 .u8 rfl)
  omega
set_option maxRecDepth 100000 in
set_option maxHeartbeats 40000000 in
theorem filterApart_walk (A : Option Addr) (l : List (List Int)) (c : Nat) (B1 : Option Addr) (f1 : List (List Int)) (c1 : Nat) (B2 : Option Addr) (f2 : List (List Int)) (c2 : Nat) (y0 y1 y2 y3 y4 : Int) (w0 : World) (hA : Ro w0 A (flatR l)) (hW : WR 7 l) (hB1 : Ro w0 B1 (flatK [.u16, .u8, .u8, .u8, .u8] f1)) (hV1 : WR 5 f1) (hb1 : FrB f1) (hB2 : Ro w0 B2 (flatK [.u16, .u8, .u8, .u8, .u8] f2)) (hV2 : WR 5 f2) (hb2 : FrB f2) (hc : (l.length ≤ c ∧ c ≤ 9223372036854775807) ∧ (f1.length ≤ c1 ∧ c1 ≤ 9223372036854775807) ∧ f2.length ≤ c2 ∧ c2 ≤ 9223372036854775807) (h : (0 ≤ y0 ∧ y0 ≤ 65535) ∧ (0 ≤ y1 ∧ y1 ≤ 255) ∧ (0 ≤ y2 ∧ y2 ≤ 255) ∧ (0 ≤ y3 ∧ y3 ≤ 255) ∧ 0 ≤ y4 ∧ y4 ≤ 255) :
    Calls Try.prog 6 #[.slice A l.length c, .slice B1 f1.length c1, .slice B2 f2.length c2, .agg #[.int .u16 y0, .int .u8 y1, .int .u8 y2, .int .u8 y3, .int .u8 y4]] w0 (Ret w0 (.bool true)) := by
 refine enterK 175 Try.func6 rfl rfl rfl ?_
 intro a hF Q0 hR0 hN0
 have hM := Mem.start w0
 replace hM := hM.addOld 1 hA (Nat.le_refl _)
 replace hM := hM.addOld 2 hB1 (Nat.le_refl _)
 replace hM := hM.addOld 3 hB2 (Nat.le_refl _)
 refine wp_seq_k fun K1 hK1 => ?_
 refine wp_region_lit ?_
 refine wl (eN 7 4 (t := 54) (fun b => .pointer (some ⟨b, 0, none⟩)) #[.int .u16 y0, .int .u8 y1, .int .u8 y2, .int .u8 y3, .int .u8 y4] hF hM (by kernel_rfl) (fun _ => by kernel_rfl) fun bb1 a w hF hM => ?_)
 refine sB 1 [(8, .bool false)] hF (by kernel_rfl) fun a hF => ?_
 refine wpList_nil ?_
 refine hK1 _ _ ?_
 refine wp_seq_k fun K2 hK2 => ?_
 refine wp_seq_k fun K3 hK3 => ?_
 refine wp_region_lit ?_
 refine wl (eM 32 (v := .bool true) hF hM (by kernel_rfl) (yld_call (f := 9) (args := #[]) hF (by kernel_rfl) (fun _ => by kernel_rfl) (fun w hM => wakes_w w)) fun a w hF hM => ?_)
 refine sB 1 [(33, .bool false)] hF (by kernel_rfl) fun a hF => ?_
 refine wpList_nil ?_
 refine hK3 _ _ ?_
 refine cF hF (by kernel_rfl) (by kernel_rfl) ?_
 refine wp_skip ?_
 refine hK2 _ _ ?_
 refine wp_seq_k fun K4 hK4 => ?_
 refine wp_region_lit ?_
 refine sB 1 [(35, .slice A l.length c)] hF (by kernel_rfl) fun a hF => ?_
 refine wl (sC (f := 21) (args := #[.slice A l.length c]) hF (by kernel_rfl) rfl (by decide) (by kernel_rfl) (fun _ => by kernel_rfl) ?_)
 refine enterK 73 Try.func21 rfl rfl rfl ?_
 intro a1 hF1 QR5 hR5 hNR5
 refine wp_seq_k fun K6 hK6 => ?_
 refine wp_region_lit ?_
 refine wl (eN 2 5 (t := 27) (fun b => .pointer (some ⟨b, 0, none⟩)) #[.slice none 0 0, .slice none 0 0, .int .i64 0, .slice none 0 0, .slice none 0 0] hF1 hM (by kernel_rfl) (fun _ => by kernel_rfl) fun bb2 a1 w hF1 hM => ?_)
 refine sB 1 [(3, .bool false)] hF1 (by kernel_rfl) fun a1 hF1 => ?_
 refine wpList_nil ?_
 refine hK6 _ _ ?_
 refine wp_seq_k fun K7 hK7 => ?_
 refine wp_region_lit ?_
 refine sB 1 [(4, .slice none 0 0)] hF1 (by kernel_rfl) fun a1 hF1 => ?_
 refine wpList_nil ?_
 refine hK7 _ _ ?_
 refine wp_seq_k fun K8 hK8 => ?_
 refine wp_seq_k fun K9 hK9 => ?_
 obtain ⟨lsl, e_lsl⟩ : ∃ x : List (List Int), x = l.take ((min (l.length : Int) 6).toNat) := ⟨_, rfl⟩
 have len_lsl : (lsl.length : Int) = min (l.length : Int) 6 := by rw [e_lsl, List.length_take]; omega
 have hW_lsl : WR 7 lsl := e_lsl ▸ WR.take hW
 replace hM := hM.roMore 6 1 (xs' := (flatR lsl)) rfl (by rw [e_lsl]; exact flatR_sub _ hW)
 refine wp_region_lit ?_
 refine sB 3 [(11, .slice A l.length c), (12, .slice A l.length c), (13, .int .i64 (l.length : Int))] hF1 (by kernel_rfl) fun a1 hF1 => ?_
 refine wl (eP 14 (v0 := .int .i64 (if 6 < (l.length : Int) then 6 else (l.length : Int))) (v := .int .i64 (min (l.length : Int) 6)) hF1 (by kernel_rfl) (fun _ => by kernel_rfl) (vi (min_if _ _)) fun a1 hF1 => ?_)
 refine wl (eM 15 (v := .slice A lsl.length c) hF1 hM (by kernel_rfl) (yld_slice0 (e := 57) (len := l.length) (cap := c) (m := lsl.length) (A := A) (i := min (l.length : Int) 6) hF1 rfl (by kernel_rfl) (by kernel_rfl) (by kernel_rfl) (by kernel_rfl) (by kernel_rfl) (by omega) (by omega)) fun a1 w hF1 hM => ?_)
 refine sB 2 [(16, .int .i64 (lsl.length : Int)), (17, .int .i64 0)] hF1 (by kernel_rfl) fun a1 hF1 => ?_
 refine wpList_nil ?_
 refine hK9 _ _ ?_
 refine wp_block ?_
 replace hM := hM.addNil 7 57 7
 refine wp_loop_k (G := Nat × List (List Int) × Nat × Option Addr × Nat) (fun gg a w => Fr 73 [(4, some (.slice gg.2.2.2.1 gg.2.2.1 gg.2.2.2.2)), (17, some (.int .i64 (gg.1 : Int))), (2, some (.pointer (some ⟨bb2, 0, none⟩))), (3, some (.bool false)), (15, some (.slice A lsl.length c)), (16, some (.int .i64 (lsl.length : Int)))] a ∧ Mem w0.heap.size w0 [(1, some (.ro A (flatR l))), (2, some (.ro B1 (flatK [.u16, .u8, .u8, .u8, .u8] f1))), (3, some (.ro B2 (flatK [.u16, .u8, .u8, .u8, .u8] f2))), (4, some (.row bb1 54 #[.int .u16 y0, .int .u8 y1, .int .u8 y2, .int .u8 y3, .int .u8 y4])), (5, some (.row bb2 27 #[.slice none 0 0, .slice none 0 0, .int .i64 0, .slice none 0 0, .slice none 0 0])), (6, some (.ro A (flatR lsl))), (7, some (.own (.slice gg.2.2.2.1 gg.2.2.1 gg.2.2.2.2) 57 7 gg.2.2.1 (flatR gg.2.1)))] w ∧ ((gg.1 : Int) ≤ (lsl.length : Int)) ∧ (liB gg.2.1 [] = true) ∧ (WR 7 gg.2.1) ∧ ((gg.2.1.length : Int) = (gg.2.2.1 : Int)) ∧ ((gg.2.2.1 : Int) ≤ (gg.1 : Int))) (fun gg => lsl.length - gg.1) (0, ([] : List (List Int)), 0, none, 0) ?_ ?_
 ·refine ⟨(((((((Fr.nil hF1).c hF1 (i := 16) rfl rfl).c hF1 (i := 15) rfl rfl).c hF1 (i := 3) rfl rfl).c hF1 (i := 2) rfl rfl).c hF1 (i := 17) rfl (vi (show (0 : Int) = (0 : Int) from by omega))).c hF1 (i := 4) rfl rfl), (hM.sub (((((((Sub.nil.c (k := 7) rfl rfl).c (k := 6) rfl rfl).c (k := 5) rfl rfl).c (k := 4) rfl rfl).c (k := 3) rfl rfl).c (k := 2) rfl rfl).c (k := 1) rfl rfl)), (show (0 : Int) ≤ (lsl.length : Int) from by omega), (show liB ([] : List (List Int)) [] = true from by rfl), (show WR 7 ([] : List (List Int)) from by exact WR.nil), (show (([] : List (List Int)).length : Int) = (0 : Int) from by rfl), (show (0 : Int) ≤ (0 : Int) from by omega)⟩
 ·intro gg a1 w hI
  intro K10 hK10
  obtain ⟨k, la, n_, G, gc⟩ := gg
  try dsimp only at hI hK10
  obtain ⟨hF1, hM, hz1, hz2, hz3, hz4, hz5⟩ := hI
  refine wp_seq_k fun K11 hK11 => ?_
  refine wp_region_lit ?_
  refine sB 1 [(18, .bool (decide ((k : Int) < (lsl.length : Int))))] hF1 (by kernel_rfl) fun a1 hF1 => ?_
  refine wpList_nil ?_
  refine hK11 _ _ ?_
  refine wp_seq_k fun K12 hK12 => ?_
  by_cases hz6 : (k : Int) < (lsl.length : Int)
  ·skip
   replace hF1 := hF1.c hF1 (i := 18) (v := .bool true) rfl (bT hz6)
   refine cT hF1 (by kernel_rfl) (by kernel_rfl) ?_
   refine wp_skip ?_
   refine hK12 _ _ ?_
   refine wp_seq_k fun K13 hK13 => ?_
   refine wp_block ?_
   refine wp_seq_k fun K14 hK14 => ?_
   refine wp_region_lit ?_
   refine wl (eM 19 (v := .pointer (some (ea A (k * 7)))) hF1 hM (by kernel_rfl) (yld_ix (kd := .i64) (e := 57) (len := lsl.length) (cap := c) (i := (k : Int)) (size := 7) (A := A) hF1 rfl (by kernel_rfl) (by kernel_rfl) (by kernel_rfl) (by kernel_rfl) (by kernel_rfl) (roK 6 rfl) (by omega) (by omega) (by rw [flatR_length hW_lsl]; (try simp only [List.length_map, List.length_append, List.length_replicate, List.length_set, List.length_cons, List.length_nil, flat2_length, List.length_take]); omega)) fun a1 w hF1 hM => ?_)
   refine wl (eM 20 (v := .agg #[.int .i64 (rc lsl k 0), .int .i64 (rc lsl k 1), .int .i64 (rc lsl k 2), .int .i64 (rc lsl k 3), .int .i64 (rc lsl k 4), .int .i64 (rc lsl k 5), .int .i64 (rc lsl k 6)]) hF1 hM (by kernel_rfl) (yld_roM (A := A) (j := k * 7) (us := [.int .i64 (rc lsl k 0), .int .i64 (rc lsl k 1), .int .i64 (rc lsl k 2), .int .i64 (rc lsl k 3), .int .i64 (rc lsl k 4), .int .i64 (rc lsl k 5), .int .i64 (rc lsl k 6)]) hF1 rfl (by kernel_rfl) (by kernel_rfl) (roK 6 rfl) (by kernel_rfl) rfl (rc_sub (k := k) (f := 0) (m := 7) hW_lsl (by omega) (by decide) rfl)) fun a1 w hF1 hM => ?_)
   refine wl (eN 6 8 (t := 57) (fun b => .pointer (some ⟨b, 0, none⟩)) #[.int .i64 0, .int .i64 0, .int .i64 0, .int .i64 0, .int .i64 0, .int .i64 0, .int .i64 0] hF1 hM (by kernel_rfl) (fun _ => by kernel_rfl) fun bb3 a1 w hF1 hM => ?_)
   refine wl (sStore (i := 8) (off := 0) (cs' := #[.int .i64 (rc lsl k 0), .int .i64 (rc lsl k 1), .int .i64 (rc lsl k 2), .int .i64 (rc lsl k 3), .int .i64 (rc lsl k 4), .int .i64 (rc lsl k 5), .int .i64 (rc lsl k 6)]) hF1 hM (by kernel_rfl) rfl rfl (by kernel_rfl) (by kernel_rfl) rfl (by kernel_rfl) fun w hM => ?_)
   refine wpList_nil ?_
   refine hK14 _ _ ?_
   refine wp_seq_k fun K15 hK15 => ?_
   refine wp_region_lit ?_
   refine sB 1 [(21, .pointer (some ⟨bb3, 0, none⟩))] hF1 (by kernel_rfl) fun a1 hF1 => ?_
   refine wl (eL 22 8 0 (v := .int .i64 (rc lsl k 0)) hF1 hM (by kernel_rfl) rfl rfl (by kernel_rfl) (by kernel_rfl) fun a1 w hF1 hM => ?_)
   refine wl (eP 23 (v0 := .int .u64 (IntKind.u64.wrap (rc lsl k 0))) (v := .int .u64 (rc lsl k 0 % 18446744073709551616)) hF1 (by kernel_rfl) (fun _ => by kernel_rfl) (vi (u64_wrap _)) fun a1 hF1 => ?_)
   obtain ⟨ma0, hma0⟩ : ∃ z : Int, rc lsl k 0 % 18446744073709551616 % 3 = z := ⟨_, rfl⟩
   refine wl (eM 24 (v := .int .u64 ma0) hF1 hM (by kernel_rfl) (yld_rem (rc lsl k 0 % 18446744073709551616) 3 hF1 rfl (by kernel_rfl) (by kernel_rfl) (by kernel_rfl) (by omega) ((Int.tmod_eq_emod_of_nonneg (by omega)).trans hma0)) fun a1 w hF1 hM => ?_)
   refine wl (eP 25 (v0 := .int .i64 (IntKind.i64.wrap ma0)) (v := .int .i64 ma0) hF1 (by kernel_rfl) (fun _ => by kernel_rfl) (vi (IntWalk.i64_in _ (by omega))) fun a1 hF1 => ?_)
   refine sB 1 [(26, .pointer (some ⟨bb3, 1, none⟩))] hF1 (by kernel_rfl) fun a1 hF1 => ?_
   refine wl (eL 27 8 1 (v := .int .i64 (rc lsl k 1)) hF1 hM (by kernel_rfl) rfl rfl (by kernel_rfl) (by kernel_rfl) fun a1 w hF1 hM => ?_)
   refine wl (eP 28 (v0 := .int .u64 (IntKind.u64.wrap (rc lsl k 1))) (v := .int .u64 (rc lsl k 1 % 18446744073709551616)) hF1 (by kernel_rfl) (fun _ => by kernel_rfl) (vi (u64_wrap _)) fun a1 hF1 => ?_)
   obtain ⟨ma1, hma1⟩ : ∃ z : Int, rc lsl k 1 % 18446744073709551616 % 3 = z := ⟨_, rfl⟩
   refine wl (eM 29 (v := .int .u64 ma1) hF1 hM (by kernel_rfl) (yld_rem (rc lsl k 1 % 18446744073709551616) 3 hF1 rfl (by kernel_rfl) (by kernel_rfl) (by kernel_rfl) (by omega) ((Int.tmod_eq_emod_of_nonneg (by omega)).trans hma1)) fun a1 w hF1 hM => ?_)
   refine wl (eP 30 (v0 := .int .i64 (IntKind.i64.wrap ma1)) (v := .int .i64 ma1) hF1 (by kernel_rfl) (fun _ => by kernel_rfl) (vi (IntWalk.i64_in _ (by omega))) fun a1 hF1 => ?_)
   refine wl (eP 31 (v0 := .int .i64 (IntKind.i64.wrap (1 + ma1))) (v := .int .i64 (1 + ma1)) hF1 (by kernel_rfl) (fun _ => by kernel_rfl) (wi (by omega)) fun a1 hF1 => ?_)
   refine sB 1 [(32, .pointer (some ⟨bb3, 0, none⟩))] hF1 (by kernel_rfl) fun a1 hF1 => ?_
   refine wl (sStore (i := 8) (off := 0) (cs' := #[.int .i64 ma0, .int .i64 (rc lsl k 1), .int .i64 (rc lsl k 2), .int .i64 (rc lsl k 3), .int .i64 (rc lsl k 4), .int .i64 (rc lsl k 5), .int .i64 (rc lsl k 6)]) hF1 hM (by kernel_rfl) rfl rfl (by kernel_rfl) (by kernel_rfl) rfl (by kernel_rfl) fun w hM => ?_)
   refine sB 1 [(33, .pointer (some ⟨bb3, 1, none⟩))] hF1 (by kernel_rfl) fun a1 hF1 => ?_
   refine wl (sStore (i := 8) (off := 1) (cs' := #[.int .i64 ma0, .int .i64 (1 + ma1), .int .i64 (rc lsl k 2), .int .i64 (rc lsl k 3), .int .i64 (rc lsl k 4), .int .i64 (rc lsl k 5), .int .i64 (rc lsl k 6)]) hF1 hM (by kernel_rfl) rfl rfl (by kernel_rfl) (by kernel_rfl) rfl (by kernel_rfl) fun w hM => ?_)
   refine wpList_nil ?_
   refine hK15 _ _ ?_
   refine wp_seq_k fun K16 hK16 => ?_
   refine wp_region_lit ?_
   refine sB 1 [(34, .pointer (some ⟨bb3, 3, none⟩))] hF1 (by kernel_rfl) fun a1 hF1 => ?_
   refine wl (eL 35 8 3 (v := .int .i64 (rc lsl k 3)) hF1 hM (by kernel_rfl) rfl rfl (by kernel_rfl) (by kernel_rfl) fun a1 w hF1 hM => ?_)
   refine wl (eP 36 (v0 := .int .u64 (IntKind.u64.wrap (rc lsl k 3))) (v := .int .u64 (rc lsl k 3 % 18446744073709551616)) hF1 (by kernel_rfl) (fun _ => by kernel_rfl) (vi (u64_wrap _)) fun a1 hF1 => ?_)
   obtain ⟨ma3, hma3⟩ : ∃ z : Int, rc lsl k 3 % 18446744073709551616 % 4 = z := ⟨_, rfl⟩
   refine wl (eM 37 (v := .int .u64 ma3) hF1 hM (by kernel_rfl) (yld_rem (rc lsl k 3 % 18446744073709551616) 4 hF1 rfl (by kernel_rfl) (by kernel_rfl) (by kernel_rfl) (by omega) ((Int.tmod_eq_emod_of_nonneg (by omega)).trans hma3)) fun a1 w hF1 hM => ?_)
   refine wl (eP 38 (v0 := .int .i64 (IntKind.i64.wrap ma3)) (v := .int .i64 ma3) hF1 (by kernel_rfl) (fun _ => by kernel_rfl) (vi (IntWalk.i64_in _ (by omega))) fun a1 hF1 => ?_)
   refine wl (eP 39 (v0 := .int .i64 (IntKind.i64.wrap (84 + ma3))) (v := .int .i64 (84 + ma3)) hF1 (by kernel_rfl) (fun _ => by kernel_rfl) (wi (by omega)) fun a1 hF1 => ?_)
   refine sB 1 [(40, .pointer (some ⟨bb3, 3, none⟩))] hF1 (by kernel_rfl) fun a1 hF1 => ?_
   refine wl (sStore (i := 8) (off := 3) (cs' := #[.int .i64 ma0, .int .i64 (1 + ma1), .int .i64 (rc lsl k 2), .int .i64 (84 + ma3), .int .i64 (rc lsl k 4), .int .i64 (rc lsl k 5), .int .i64 (rc lsl k 6)]) hF1 hM (by kernel_rfl) rfl rfl (by kernel_rfl) (by kernel_rfl) rfl (by kernel_rfl) fun w hM => ?_)
   refine wpList_nil ?_
   refine hK16 _ _ ?_
   refine wp_seq_k fun K17 hK17 => ?_
   cases hz7 : (liB (la ++ [[ma0, 1 + ma1, rc lsl k 2, 84 + ma3, rc lsl k 4, rc lsl k 5, rc lsl k 6]]) ([] : List (List Int)))
   ·skip
    have cap3_7 := own_cap hM (k := 7) rfl
    refine rF (by kernel_rfl) (by kernel_rfl) (fun S a w => ∃ bb6 : Nat, ∃ AA7 : Option Addr, ∃ cc7 : Nat, ∃ bb8 : Nat, Fr 73 [(2, some (.pointer (some ⟨bb2, 0, none⟩))), (3, some (.bool false)), (4, some (.slice G n_ gc)), (6, some (.pointer (some ⟨bb3, 0, none⟩))), (7, (cond (S.getD 13 false) (some (.pointer (some ⟨bb8, 0, none⟩))) none)), (8, (cond (S.getD 15 false) (some (.int .i64 2)) none)), (15, some (.slice A lsl.length c)), (16, some (.int .i64 (lsl.length : Int))), (17, some (.int .i64 (k : Int))), (41, (cond (S.getD 10 false) (some (.tuple #[.agg #[.slice none 0 0, .slice none 0 0, .int .i64 0, .slice none 0 0, .slice none 0 0], .int .i64 2])) none)), (42, (cond (S.getD 0 false) (some (.slice G n_ gc)) none)), (43, (cond (S.getD 1 false) (some (.slice G n_ gc)) none)), (44, (cond (S.getD 2 false) (some (.int .i64 (n_ : Int))) none)), (45, (cond (S.getD 3 false) (some (.slice G n_ gc)) none)), (46, (cond (S.getD 4 false) (some (.int .i64 (n_ : Int))) none)), (47, (cond (S.getD 5 false) (some (.slice G n_ n_)) none)), (48, (cond (S.getD 6 false) (some (.agg #[.int .i64 ma0, .int .i64 (1 + ma1), .int .i64 (rc lsl k 2), .int .i64 (84 + ma3), .int .i64 (rc lsl k 4), .int .i64 (rc lsl k 5), .int .i64 (rc lsl k 6)])) none)), (49, (cond (S.getD 7 false) (some (.slice (some ⟨bb6, 0, none⟩) 1 1)) none)), (50, (cond (S.getD 8 false) (some (.slice AA7 (n_ + 1) cc7)) none)), (51, (cond (S.getD 9 false) (some (.tuple #[.agg #[.slice none 0 0, .slice none 0 0, .int .i64 0, .slice none 0 0, .slice none 0 0], .int .i64 2])) none)), (52, (cond (S.getD 11 false) (some (.agg #[.slice none 0 0, .slice none 0 0, .int .i64 0, .slice none 0 0, .slice none 0 0])) none)), (53, (cond (S.getD 12 false) (some (.int .i64 2)) none))] a ∧ Mem w0.heap.size w0 [(1, some (.ro A (flatR l))), (2, some (.ro B1 (flatK [.u16, .u8, .u8, .u8, .u8] f1))), (3, some (.ro B2 (flatK [.u16, .u8, .u8, .u8, .u8] f2))), (4, some (.row bb1 54 #[.int .u16 y0, .int .u8 y1, .int .u8 y2, .int .u8 y3, .int .u8 y4])), (5, some (.row bb2 27 #[.slice none 0 0, .slice none 0 0, .int .i64 0, .slice none 0 0, .slice none 0 0])), (6, some (.ro A (flatR lsl))), (7, some (.own (.slice G n_ gc) 57 7 n_ (flatR la))), (8, some (.row bb3 57 #[.int .i64 ma0, .int .i64 (1 + ma1), .int .i64 (rc lsl k 2), .int .i64 (84 + ma3), .int .i64 (rc lsl k 4), .int .i64 (rc lsl k 5), .int .i64 (rc lsl k 6)])), (11, (cond (S.getD 7 false) (some (.row bb6 57 #[.int .i64 ma0, .int .i64 (1 + ma1), .int .i64 (rc lsl k 2), .int .i64 (84 + ma3), .int .i64 (rc lsl k 4), .int .i64 (rc lsl k 5), .int .i64 (rc lsl k 6)])) none)), (12, (cond (S.getD 8 false) (some (.own (.slice AA7 (n_ + 1) cc7) 57 7 (n_ + 1) (flatR (la ++ [[ma0, 1 + ma1, rc lsl k 2, 84 + ma3, rc lsl k 4, rc lsl k 5, rc lsl k 6]])))) none)), (13, (cond (S.getD 14 false) (some (.row bb8 27 #[.slice none 0 0, .slice none 0 0, .int .i64 0, .slice none 0 0, .slice none 0 0])) (cond (S.getD 13 false) (some (.row bb8 27 #[.slice none 0 0, .slice none 0 0, .int .i64 0, .slice none 0 0, .slice none 0 0])) none)))] w) ?_ ?_ ?_
    ·exact ⟨0, none, 0, 0, (((((((((((((((((((((((Fr.nil hF1).co hF1 (i := 53) (by kernel_rfl)).co hF1 (i := 52) (by kernel_rfl)).co hF1 (i := 51) (by kernel_rfl)).co hF1 (i := 50) (by kernel_rfl)).co hF1 (i := 49) (by kernel_rfl)).co hF1 (i := 48) (by kernel_rfl)).co hF1 (i := 47) (by kernel_rfl)).co hF1 (i := 46) (by kernel_rfl)).co hF1 (i := 45) (by kernel_rfl)).co hF1 (i := 44) (by kernel_rfl)).co hF1 (i := 43) (by kernel_rfl)).co hF1 (i := 42) (by kernel_rfl)).co hF1 (i := 41) (by kernel_rfl)).co hF1 (i := 17) (by kernel_rfl)).co hF1 (i := 16) (by kernel_rfl)).co hF1 (i := 15) (by kernel_rfl)).co hF1 (i := 8) (by kernel_rfl)).co hF1 (i := 7) (by kernel_rfl)).co hF1 (i := 6) (by kernel_rfl)).co hF1 (i := 4) (by kernel_rfl)).co hF1 (i := 3) (by kernel_rfl)).co hF1 (i := 2) (by kernel_rfl)), hM.drew.sub (((((((((((Sub.nil.co (k := 13) (by kernel_rfl)).co (k := 12) (by kernel_rfl)).co (k := 11) (by kernel_rfl)).co (k := 8) (by kernel_rfl)).co (k := 7) (by kernel_rfl)).co (k := 6) (by kernel_rfl)).co (k := 5) (by kernel_rfl)).co (k := 4) (by kernel_rfl)).co (k := 3) (by kernel_rfl)).co (k := 2) (by kernel_rfl)).co (k := 1) (by kernel_rfl))⟩
    ·refine stC ?_ (stC ?_ (stC ?_ (stC ?_ (stC ?_ (stC ?_ (stC ?_ (stC ?_ (stC ?_ (stC ?_ (stC ?_ (stC ?_ (stC ?_ (stC ?_ (stC ?_ (stC ?_ (trivial))))))))))))))))
     ·intro s0 s1 s2 s3 s4 s5 s6 s7 s8 s9 s10 s11 s12 s13 s14 s15 hc hi hp a w hS
      obtain rfl : s0 = false := hi
      obtain ⟨bb6, AA7, cc7, bb8, hF1, hM⟩ := hS
      refine eP 42 (v0 := .slice G n_ gc) (v := .slice G n_ gc) hF1 (by kernel_rfl) (fun _ => by kernel_rfl) rfl fun a1 hF1 => ?_
      exact ⟨bb6, AA7, cc7, bb8, ((hF1.repl 10 (by kernel_rfl)).cast (by kernel_rfl)), (hM.cast (by kernel_rfl))⟩
     ·intro s0 s1 s2 s3 s4 s5 s6 s7 s8 s9 s10 s11 s12 s13 s14 s15 hc hi hp a w hS
      obtain rfl : s1 = false := hi
      obtain ⟨bb6, AA7, cc7, bb8, hF1, hM⟩ := hS
      refine eP 43 (v0 := .slice G n_ gc) (v := .slice G n_ gc) hF1 (by kernel_rfl) (fun _ => by kernel_rfl) rfl fun a1 hF1 => ?_
      exact ⟨bb6, AA7, cc7, bb8, ((hF1.repl 11 (by kernel_rfl)).cast (by kernel_rfl)), (hM.cast (by kernel_rfl))⟩
     ·intro s0 s1 s2 s3 s4 s5 s6 s7 s8 s9 s10 s11 s12 s13 s14 s15 hc hi hp a w hS
      obtain rfl : s2 = false := hi
      obtain rfl : s1 = true := hp 1 (by kernel_rfl)
      obtain ⟨bb6, AA7, cc7, bb8, hF1, hM⟩ := hS
      refine eP 44 (v0 := .int .i64 (n_ : Int)) (v := .int .i64 (n_ : Int)) hF1 (by kernel_rfl) (fun _ => by kernel_rfl) rfl fun a1 hF1 => ?_
      exact ⟨bb6, AA7, cc7, bb8, ((hF1.repl 12 (by kernel_rfl)).cast (by kernel_rfl)), (hM.cast (by kernel_rfl))⟩
     ·intro s0 s1 s2 s3 s4 s5 s6 s7 s8 s9 s10 s11 s12 s13 s14 s15 hc hi hp a w hS
      obtain rfl : s3 = false := hi
      obtain ⟨bb6, AA7, cc7, bb8, hF1, hM⟩ := hS
      refine eP 45 (v0 := .slice G n_ gc) (v := .slice G n_ gc) hF1 (by kernel_rfl) (fun _ => by kernel_rfl) rfl fun a1 hF1 => ?_
      exact ⟨bb6, AA7, cc7, bb8, ((hF1.repl 13 (by kernel_rfl)).cast (by kernel_rfl)), (hM.cast (by kernel_rfl))⟩
     ·intro s0 s1 s2 s3 s4 s5 s6 s7 s8 s9 s10 s11 s12 s13 s14 s15 hc hi hp a w hS
      obtain rfl : s4 = false := hi
      obtain rfl : s3 = true := hp 3 (by kernel_rfl)
      obtain ⟨bb6, AA7, cc7, bb8, hF1, hM⟩ := hS
      refine eP 46 (v0 := .int .i64 (n_ : Int)) (v := .int .i64 (n_ : Int)) hF1 (by kernel_rfl) (fun _ => by kernel_rfl) rfl fun a1 hF1 => ?_
      exact ⟨bb6, AA7, cc7, bb8, ((hF1.repl 14 (by kernel_rfl)).cast (by kernel_rfl)), (hM.cast (by kernel_rfl))⟩
     ·intro s0 s1 s2 s3 s4 s5 s6 s7 s8 s9 s10 s11 s12 s13 s14 s15 hc hi hp a w hS
      obtain rfl : s5 = false := hi
      obtain rfl : s4 = true := hp 4 (by kernel_rfl)
      obtain rfl : s2 = true := hp 2 (by kernel_rfl)
      obtain rfl : s0 = true := hp 0 (by kernel_rfl)
      obtain ⟨bb6, AA7, cc7, bb8, hF1, hM⟩ := hS
      refine eM 47 (v := .slice G n_ n_) hF1 hM (by kernel_rfl) (yld_slice3 (e := 57) (len := n_) (cap := gc) (m := n_) (c := n_) (A := G) (i := (n_ : Int)) (j := (n_ : Int)) hF1 rfl (by kernel_rfl) (by kernel_rfl) (by kernel_rfl) (by kernel_rfl) (by kernel_rfl) (by kernel_rfl) rfl rfl (Nat.le_refl _) cap3_7) fun a1 w hF1 hM => ?_
      exact ⟨bb6, AA7, cc7, bb8, ((hF1.repl 15 (by kernel_rfl)).cast (by kernel_rfl)), (hM.cast (by kernel_rfl))⟩
     ·intro s0 s1 s2 s3 s4 s5 s6 s7 s8 s9 s10 s11 s12 s13 s14 s15 hc hi hp a w hS
      obtain rfl : s6 = false := hi
      obtain ⟨bb6, AA7, cc7, bb8, hF1, hM⟩ := hS
      refine eL 48 8 0 (v := .agg #[.int .i64 ma0, .int .i64 (1 + ma1), .int .i64 (rc lsl k 2), .int .i64 (84 + ma3), .int .i64 (rc lsl k 4), .int .i64 (rc lsl k 5), .int .i64 (rc lsl k 6)]) hF1 hM (by kernel_rfl) rfl rfl (by kernel_rfl) (by kernel_rfl) fun a1 w hF1 hM => ?_
      exact ⟨bb6, AA7, cc7, bb8, ((hF1.repl 16 (by kernel_rfl)).cast (by kernel_rfl)), (hM.cast (by kernel_rfl))⟩
     ·intro s0 s1 s2 s3 s4 s5 s6 s7 s8 s9 s10 s11 s12 s13 s14 s15 hc hi hp a w hS
      obtain rfl : s7 = false := hi
      obtain rfl : s6 = true := hp 6 (by kernel_rfl)
      obtain ⟨bb6, AA7, cc7, bb8, hF1, hM⟩ := hS
      refine eN 49 11 (t := 57) (fun b => .slice (some ⟨b, 0, none⟩) 1 1) #[.int .i64 ma0, .int .i64 (1 + ma1), .int .i64 (rc lsl k 2), .int .i64 (84 + ma3), .int .i64 (rc lsl k 4), .int .i64 (rc lsl k 5), .int .i64 (rc lsl k 6)] hF1 hM (by kernel_rfl) (fun _ => by kernel_rfl) fun bb6 a1 w hF1 hM => ?_
      exact ⟨bb6, AA7, cc7, bb8, ((hF1.repl 17 (by kernel_rfl)).cast (by kernel_rfl)), ((hM.repl 8 (by kernel_rfl)).cast (by kernel_rfl))⟩
     ·intro s0 s1 s2 s3 s4 s5 s6 s7 s8 s9 s10 s11 s12 s13 s14 s15 hc hi hp a w hS
      obtain rfl : s8 = false := hi
      obtain rfl : s7 = true := hp 7 (by kernel_rfl)
      obtain rfl : s5 = true := hp 5 (by kernel_rfl)
      obtain ⟨bb6, AA7, cc7, bb8, hF1, hM⟩ := hS
      refine sAppG 50 12 (e := 57) (size := 7) (bytes := 56) (z := .agg #[.int .i64 0, .int .i64 0, .int .i64 0, .int .i64 0, .int .i64 0, .int .i64 0, .int .i64 0]) (m := 1) (c := 1) (l := n_) (A := G) (xs := (flatR la)) (news := [.int .i64 ma0, .int .i64 (1 + ma1), .int .i64 (rc lsl k 2), .int .i64 (84 + ma3), .int .i64 (rc lsl k 4), .int .i64 (rc lsl k 5), .int .i64 (rc lsl k 6)]) (flatR (la ++ [[ma0, 1 + ma1, rc lsl k 2, 84 + ma3, rc lsl k 4, rc lsl k 5, rc lsl k 6]])) hF1 hM (by kernel_rfl) rfl (by kernel_rfl) (by kernel_rfl) (by kernel_rfl) rfl rfl (by rw [flatR_length (show WR 7 la from by assumption)]; omega) (roO 7 rfl) (fun h => (own_nil hM (k := 7) rfl h).1) rfl (roR 11 rfl) (by decide) (by omega) (by decide) (flatR_append la [[ma0, 1 + ma1, rc lsl k 2, 84 + ma3, rc lsl k 4, rc lsl k 5, rc lsl k 6]]).symm fun AA7 cc7 a1 w hF1 hM => ?_
      exact ⟨bb6, AA7, cc7, bb8, ((hF1.repl 18 (by kernel_rfl)).cast (by kernel_rfl)), ((hM.repl 9 (by kernel_rfl)).cast (by kernel_rfl))⟩
     ·intro s0 s1 s2 s3 s4 s5 s6 s7 s8 s9 s10 s11 s12 s13 s14 s15 hc hi hp a w hS
      obtain rfl : s9 = false := hi
      obtain rfl : s8 = true := hp 8 (by kernel_rfl)
      obtain ⟨bb6, AA7, cc7, bb8, hF1, hM⟩ := hS
      refine eM 51 (v := .tuple #[.agg #[.slice none 0 0, .slice none 0 0, .int .i64 0, .slice none 0 0, .slice none 0 0], .int .i64 2]) hF1 hM (by kernel_rfl) (yld_call (f := 13) (args := #[.slice AA7 (n_ + 1) cc7, .slice none 0 0]) hF1 (by kernel_rfl) (fun _ => by kernel_rfl) (fun w hM => fiNew_nox AA7 (la ++ [[ma0, 1 + ma1, rc lsl k 2, 84 + ma3, rc lsl k 4, rc lsl k 5, rc lsl k 6]]) cc7 none ([] : List (List Int)) 0 w (ro_of_own (hM.ok 12 _ rfl)) (WR.app (show WR 7 la from by assumption) (show WR 7 ([[ma0, 1 + ma1, rc lsl k 2, 84 + ma3, rc lsl k 4, rc lsl k 5, rc lsl k 6]] : List (List Int)) from by unfold WR; simp)) Ro.nil WR.nil (by simp; omega) rfl hz7)) fun a1 w hF1 hM => ?_
      exact ⟨bb6, AA7, cc7, bb8, ((hF1.repl 19 (by kernel_rfl)).cast (by kernel_rfl)), (hM.cast (by kernel_rfl))⟩
     ·intro s0 s1 s2 s3 s4 s5 s6 s7 s8 s9 s10 s11 s12 s13 s14 s15 hc hi hp a w hS
      obtain rfl : s10 = false := hi
      obtain rfl : s9 = true := hp 9 (by kernel_rfl)
      obtain ⟨bb6, AA7, cc7, bb8, hF1, hM⟩ := hS
      refine eP 41 (v0 := .tuple #[.agg #[.slice none 0 0, .slice none 0 0, .int .i64 0, .slice none 0 0, .slice none 0 0], .int .i64 2]) (v := .tuple #[.agg #[.slice none 0 0, .slice none 0 0, .int .i64 0, .slice none 0 0, .slice none 0 0], .int .i64 2]) hF1 (by kernel_rfl) (fun _ => by kernel_rfl) rfl fun a1 hF1 => ?_
      exact ⟨bb6, AA7, cc7, bb8, ((hF1.repl 9 (by kernel_rfl)).cast (by kernel_rfl)), (hM.cast (by kernel_rfl))⟩
     ·intro s0 s1 s2 s3 s4 s5 s6 s7 s8 s9 s10 s11 s12 s13 s14 s15 hc hi hp a w hS
      obtain rfl : s11 = false := hi
      obtain rfl : s10 = true := hp 10 (by kernel_rfl)
      obtain ⟨bb6, AA7, cc7, bb8, hF1, hM⟩ := hS
      refine eP 52 (v0 := .agg #[.slice none 0 0, .slice none 0 0, .int .i64 0, .slice none 0 0, .slice none 0 0]) (v := .agg #[.slice none 0 0, .slice none 0 0, .int .i64 0, .slice none 0 0, .slice none 0 0]) hF1 (by kernel_rfl) (fun _ => by kernel_rfl) rfl fun a1 hF1 => ?_
      exact ⟨bb6, AA7, cc7, bb8, ((hF1.repl 20 (by kernel_rfl)).cast (by kernel_rfl)), (hM.cast (by kernel_rfl))⟩
     ·intro s0 s1 s2 s3 s4 s5 s6 s7 s8 s9 s10 s11 s12 s13 s14 s15 hc hi hp a w hS
      obtain rfl : s12 = false := hi
      obtain rfl : s10 = true := hp 10 (by kernel_rfl)
      obtain ⟨bb6, AA7, cc7, bb8, hF1, hM⟩ := hS
      refine eP 53 (v0 := .int .i64 2) (v := .int .i64 2) hF1 (by kernel_rfl) (fun _ => by kernel_rfl) rfl fun a1 hF1 => ?_
      exact ⟨bb6, AA7, cc7, bb8, ((hF1.repl 21 (by kernel_rfl)).cast (by kernel_rfl)), (hM.cast (by kernel_rfl))⟩
     ·intro s0 s1 s2 s3 s4 s5 s6 s7 s8 s9 s10 s11 s12 s13 s14 s15 hc hi hp a w hS
      obtain rfl : s13 = false := hi
      obtain rfl : s14 = false := hc.f 14 13 (by kernel_rfl) rfl
      obtain ⟨bb6, AA7, cc7, bb8, hF1, hM⟩ := hS
      refine eN 7 13 (t := 27) (fun b => .pointer (some ⟨b, 0, none⟩)) #[.slice none 0 0, .slice none 0 0, .int .i64 0, .slice none 0 0, .slice none 0 0] hF1 hM (by kernel_rfl) (fun _ => by kernel_rfl) fun bb8 a1 w hF1 hM => ?_
      exact ⟨bb6, AA7, cc7, bb8, ((hF1.repl 4 (by kernel_rfl)).cast (by kernel_rfl)), ((hM.repl 10 (by kernel_rfl)).cast (by kernel_rfl))⟩
     ·intro s0 s1 s2 s3 s4 s5 s6 s7 s8 s9 s10 s11 s12 s13 s14 s15 hc hi hp a w hS
      obtain rfl : s14 = false := hi
      obtain rfl : s13 = true := hp 13 (by kernel_rfl)
      obtain rfl : s11 = true := hp 11 (by kernel_rfl)
      obtain ⟨bb6, AA7, cc7, bb8, hF1, hM⟩ := hS
      refine sStore (i := 13) (off := 0) (cs' := #[.slice none 0 0, .slice none 0 0, .int .i64 0, .slice none 0 0, .slice none 0 0]) hF1 hM (by kernel_rfl) rfl rfl (by kernel_rfl) (by kernel_rfl) rfl (by kernel_rfl) fun w hM => ?_
      exact ⟨bb6, AA7, cc7, bb8, (hF1.cast (by kernel_rfl)), ((hM.repl 10 (by kernel_rfl)).cast (by kernel_rfl))⟩
     ·intro s0 s1 s2 s3 s4 s5 s6 s7 s8 s9 s10 s11 s12 s13 s14 s15 hc hi hp a w hS
      obtain rfl : s15 = false := hi
      obtain rfl : s12 = true := hp 12 (by kernel_rfl)
      obtain ⟨bb6, AA7, cc7, bb8, hF1, hM⟩ := hS
      refine eP 8 (v0 := .int .i64 2) (v := .int .i64 2) hF1 (by kernel_rfl) (fun _ => by kernel_rfl) rfl fun a1 hF1 => ?_
      exact ⟨bb6, AA7, cc7, bb8, ((hF1.repl 5 (by kernel_rfl)).cast (by kernel_rfl)), (hM.cast (by kernel_rfl))⟩
    ·intro a1 w hS
     obtain ⟨bb6, AA7, cc7, bb8, hF1, hM⟩ := hS
     replace hF1 : Fr 73 [(2, some (.pointer (some ⟨bb2, 0, none⟩))), (3, some (.bool false)), (4, some (.slice G n_ gc)), (6, some (.pointer (some ⟨bb3, 0, none⟩))), (7, some (.pointer (some ⟨bb8, 0, none⟩))), (8, some (.int .i64 2)), (15, some (.slice A lsl.length c)), (16, some (.int .i64 (lsl.length : Int))), (17, some (.int .i64 (k : Int))), (41, some (.tuple #[.agg #[.slice none 0 0, .slice none 0 0, .int .i64 0, .slice none 0 0, .slice none 0 0], .int .i64 2])), (42, some (.slice G n_ gc)), (43, some (.slice G n_ gc)), (44, some (.int .i64 (n_ : Int))), (45, some (.slice G n_ gc)), (46, some (.int .i64 (n_ : Int))), (47, some (.slice G n_ n_)), (48, some (.agg #[.int .i64 ma0, .int .i64 (1 + ma1), .int .i64 (rc lsl k 2), .int .i64 (84 + ma3), .int .i64 (rc lsl k 4), .int .i64 (rc lsl k 5), .int .i64 (rc lsl k 6)])), (49, some (.slice (some ⟨bb6, 0, none⟩) 1 1)), (50, some (.slice AA7 (n_ + 1) cc7)), (51, some (.tuple #[.agg #[.slice none 0 0, .slice none 0 0, .int .i64 0, .slice none 0 0, .slice none 0 0], .int .i64 2])), (52, some (.agg #[.slice none 0 0, .slice none 0 0, .int .i64 0, .slice none 0 0, .slice none 0 0])), (53, some (.int .i64 2))] a1 := hF1.cast (by kernel_rfl)
     replace hM : Mem w0.heap.size w0 [(1, some (.ro A (flatR l))), (2, some (.ro B1 (flatK [.u16, .u8, .u8, .u8, .u8] f1))), (3, some (.ro B2 (flatK [.u16, .u8, .u8, .u8, .u8] f2))), (4, some (.row bb1 54 #[.int .u16 y0, .int .u8 y1, .int .u8 y2, .int .u8 y3, .int .u8 y4])), (5, some (.row bb2 27 #[.slice none 0 0, .slice none 0 0, .int .i64 0, .slice none 0 0, .slice none 0 0])), (6, some (.ro A (flatR lsl))), (7, some (.own (.slice G n_ gc) 57 7 n_ (flatR la))), (8, some (.row bb3 57 #[.int .i64 ma0, .int .i64 (1 + ma1), .int .i64 (rc lsl k 2), .int .i64 (84 + ma3), .int .i64 (rc lsl k 4), .int .i64 (rc lsl k 5), .int .i64 (rc lsl k 6)])), (11, some (.row bb6 57 #[.int .i64 ma0, .int .i64 (1 + ma1), .int .i64 (rc lsl k 2), .int .i64 (84 + ma3), .int .i64 (rc lsl k 4), .int .i64 (rc lsl k 5), .int .i64 (rc lsl k 6)])), (12, some (.own (.slice AA7 (n_ + 1) cc7) 57 7 (n_ + 1) (flatR (la ++ [[ma0, 1 + ma1, rc lsl k 2, 84 + ma3, rc lsl k 4, rc lsl k 5, rc lsl k 6]])))), (13, some (.row bb8 27 #[.slice none 0 0, .slice none 0 0, .int .i64 0, .slice none 0 0, .slice none 0 0]))] w := hM.cast (by kernel_rfl)
     refine hK17 _ _ ?_
     refine wp_seq_k fun K18 hK18 => ?_
     refine wp_region_lit ?_
     refine sB 1 [(54, .int .i64 2)] hF1 (by kernel_rfl) fun a1 hF1 => ?_
     refine wl (eP 55 (v0 := .bool (decide (2 = 0))) (v := .bool false) hF1 (by kernel_rfl) (fun _ => by kernel_rfl) (bF (by omega)) fun a1 hF1 => ?_)
     refine wpList_nil ?_
     refine hK18 _ _ ?_
     refine cF hF1 (by kernel_rfl) (by kernel_rfl) ?_
     refine wp_skip ?_
     refine hK13 _ _ ?_
     refine wp_region_lit ?_
     refine wl (eP 60 (v0 := .int .i64 (IntKind.i64.wrap ((k : Int) + 1))) (v := .int .i64 ((k : Int) + 1)) hF1 (by kernel_rfl) (fun _ => by kernel_rfl) (wi (by omega)) fun a1 hF1 => ?_)
     refine sB 1 [(17, .int .i64 ((k : Int) + 1))] hF1 (by kernel_rfl) fun a1 hF1 => ?_
     refine wpList_nil ?_
     refine hK10 _ _ ⟨(k + 1, la, n_, G, gc), ⟨(((((((Fr.nil hF1).c hF1 (i := 16) rfl rfl).c hF1 (i := 15) rfl rfl).c hF1 (i := 3) rfl rfl).c hF1 (i := 2) rfl rfl).c hF1 (i := 17) rfl (vi (show ((k : Int) + 1 : Int) = ((k + 1) : Int) from by omega))).c hF1 (i := 4) rfl rfl), (hM.sub (((((((Sub.nil.c (k := 7) rfl rfl).c (k := 6) rfl rfl).c (k := 5) rfl rfl).c (k := 4) rfl rfl).c (k := 3) rfl rfl).c (k := 2) rfl rfl).c (k := 1) rfl rfl)), (show ((k + 1) : Int) ≤ (lsl.length : Int) from by omega), (show liB la [] = true from by assumption), (show WR 7 la from by assumption), (show (la.length : Int) = (n_ : Int) from by omega), (show (n_ : Int) ≤ ((k + 1) : Int) from by omega)⟩, (show lsl.length - (k + 1) < lsl.length - k from by omega)⟩
   ·skip
    have cap3_7 := own_cap hM (k := 7) rfl
    obtain ⟨nl, enl⟩ : ∃ z, nwL (la ++ [[ma0, 1 + ma1, rc lsl k 2, 84 + ma3, rc lsl k 4, rc lsl k 5, rc lsl k 6]]) = z := ⟨_, rfl⟩
    obtain ⟨nm, enm⟩ : ∃ z, nwM ([] : List (List Int)) = z := ⟨_, rfl⟩
    have hnm : WR 3 nm := enm ▸ nwM_wr
    have lnl : (la ++ [[ma0, 1 + ma1, rc lsl k 2, 84 + ma3, rc lsl k 4, rc lsl k 5, rc lsl k 6]]).length = nl.length := by rw [← enl]; exact nwL_len.symm
    have lnm : (([] : List (List Int)) : List (List Int)).length = nm.length := by rw [← enm]; exact nwM_len.symm
    have fnl : flE (la ++ [[ma0, 1 + ma1, rc lsl k 2, 84 + ma3, rc lsl k 4, rc lsl k 5, rc lsl k 6]]) ([] : List (List Int)) (-1000) nl nm = 0 := by rw [← enl, ← enm]; exact fl_new hz7
    have gnl := fl_len (fl_p fnl)
    refine rF (by kernel_rfl) (by kernel_rfl) (fun S a w => ∃ bb9 : Nat, ∃ AA10 : Option Addr, ∃ cc10 : Nat, ∃ AA11 : Option Addr, ∃ cc11 : Nat, ∃ AA12 : Option Addr, ∃ cc12 : Nat, ∃ bb13 : Nat, Fr 73 [(2, some (.pointer (some ⟨bb2, 0, none⟩))), (3, some (.bool false)), (4, some (.slice G n_ gc)), (6, some (.pointer (some ⟨bb3, 0, none⟩))), (7, (cond (S.getD 13 false) (some (.pointer (some ⟨bb13, 0, none⟩))) none)), (8, (cond (S.getD 15 false) (some (.int .i64 0)) none)), (15, some (.slice A lsl.length c)), (16, some (.int .i64 (lsl.length : Int))), (17, some (.int .i64 (k : Int))), (41, (cond (S.getD 10 false) (some (.tuple #[.agg #[.slice AA10 (n_ + 1) cc10, .slice none 0 0, .int .i64 (-1000), .slice AA11 nl.length cc11, .slice AA12 nm.length cc12], .int .i64 0])) none)), (42, (cond (S.getD 0 false) (some (.slice G n_ gc)) none)), (43, (cond (S.getD 1 false) (some (.slice G n_ gc)) none)), (44, (cond (S.getD 2 false) (some (.int .i64 (n_ : Int))) none)), (45, (cond (S.getD 3 false) (some (.slice G n_ gc)) none)), (46, (cond (S.getD 4 false) (some (.int .i64 (n_ : Int))) none)), (47, (cond (S.getD 5 false) (some (.slice G n_ n_)) none)), (48, (cond (S.getD 6 false) (some (.agg #[.int .i64 ma0, .int .i64 (1 + ma1), .int .i64 (rc lsl k 2), .int .i64 (84 + ma3), .int .i64 (rc lsl k 4), .int .i64 (rc lsl k 5), .int .i64 (rc lsl k 6)])) none)), (49, (cond (S.getD 7 false) (some (.slice (some ⟨bb9, 0, none⟩) 1 1)) none)), (50, (cond (S.getD 8 false) (some (.slice AA10 (n_ + 1) cc10)) none)), (51, (cond (S.getD 9 false) (some (.tuple #[.agg #[.slice AA10 (n_ + 1) cc10, .slice none 0 0, .int .i64 (-1000), .slice AA11 nl.length cc11, .slice AA12 nm.length cc12], .int .i64 0])) none)), (52, (cond (S.getD 11 false) (some (.agg #[.slice AA10 (n_ + 1) cc10, .slice none 0 0, .int .i64 (-1000), .slice AA11 nl.length cc11, .slice AA12 nm.length cc12])) none)), (53, (cond (S.getD 12 false) (some (.int .i64 0)) none))] a ∧ Mem w0.heap.size w0 [(1, some (.ro A (flatR l))), (2, some (.ro B1 (flatK [.u16, .u8, .u8, .u8, .u8] f1))), (3, some (.ro B2 (flatK [.u16, .u8, .u8, .u8, .u8] f2))), (4, some (.row bb1 54 #[.int .u16 y0, .int .u8 y1, .int .u8 y2, .int .u8 y3, .int .u8 y4])), (5, some (.row bb2 27 #[.slice none 0 0, .slice none 0 0, .int .i64 0, .slice none 0 0, .slice none 0 0])), (6, some (.ro A (flatR lsl))), (7, some (.own (.slice G n_ gc) 57 7 n_ (flatR la))), (8, some (.row bb3 57 #[.int .i64 ma0, .int .i64 (1 + ma1), .int .i64 (rc lsl k 2), .int .i64 (84 + ma3), .int .i64 (rc lsl k 4), .int .i64 (rc lsl k 5), .int .i64 (rc lsl k 6)])), (14, (cond (S.getD 7 false) (some (.row bb9 57 #[.int .i64 ma0, .int .i64 (1 + ma1), .int .i64 (rc lsl k 2), .int .i64 (84 + ma3), .int .i64 (rc lsl k 4), .int .i64 (rc lsl k 5), .int .i64 (rc lsl k 6)])) none)), (15, (cond (S.getD 8 false) (some (.own (.slice AA10 (n_ + 1) cc10) 57 7 (n_ + 1) (flatR (la ++ [[ma0, 1 + ma1, rc lsl k 2, 84 + ma3, rc lsl k 4, rc lsl k 5, rc lsl k 6]])))) none)), (16, (cond (S.getD 9 false) (some (.ro AA11 (nl.map (Value.int .i64)))) none)), (17, (cond (S.getD 9 false) (some (.ro AA12 (flatR nm))) none)), (18, (cond (S.getD 14 false) (some (.row bb13 27 #[.slice AA10 (n_ + 1) cc10, .slice none 0 0, .int .i64 (-1000), .slice AA11 nl.length cc11, .slice AA12 nm.length cc12])) (cond (S.getD 13 false) (some (.row bb13 27 #[.slice none 0 0, .slice none 0 0, .int .i64 0, .slice none 0 0, .slice none 0 0])) none)))] w) ?_ ?_ ?_
    ·exact ⟨0, none, 0, none, 0, none, 0, 0, (((((((((((((((((((((((Fr.nil hF1).co hF1 (i := 53) (by kernel_rfl)).co hF1 (i := 52) (by kernel_rfl)).co hF1 (i := 51) (by kernel_rfl)).co hF1 (i := 50) (by kernel_rfl)).co hF1 (i := 49) (by kernel_rfl)).co hF1 (i := 48) (by kernel_rfl)).co hF1 (i := 47) (by kernel_rfl)).co hF1 (i := 46) (by kernel_rfl)).co hF1 (i := 45) (by kernel_rfl)).co hF1 (i := 44) (by kernel_rfl)).co hF1 (i := 43) (by kernel_rfl)).co hF1 (i := 42) (by kernel_rfl)).co hF1 (i := 41) (by kernel_rfl)).co hF1 (i := 17) (by kernel_rfl)).co hF1 (i := 16) (by kernel_rfl)).co hF1 (i := 15) (by kernel_rfl)).co hF1 (i := 8) (by kernel_rfl)).co hF1 (i := 7) (by kernel_rfl)).co hF1 (i := 6) (by kernel_rfl)).co hF1 (i := 4) (by kernel_rfl)).co hF1 (i := 3) (by kernel_rfl)).co hF1 (i := 2) (by kernel_rfl)), hM.drew.sub (((((((((((((Sub.nil.co (k := 18) (by kernel_rfl)).co (k := 17) (by kernel_rfl)).co (k := 16) (by kernel_rfl)).co (k := 15) (by kernel_rfl)).co (k := 14) (by kernel_rfl)).co (k := 8) (by kernel_rfl)).co (k := 7) (by kernel_rfl)).co (k := 6) (by kernel_rfl)).co (k := 5) (by kernel_rfl)).co (k := 4) (by kernel_rfl)).co (k := 3) (by kernel_rfl)).co (k := 2) (by kernel_rfl)).co (k := 1) (by kernel_rfl))⟩
    ·refine stC ?_ (stC ?_ (stC ?_ (stC ?_ (stC ?_ (stC ?_ (stC ?_ (stC ?_ (stC ?_ (stC ?_ (stC ?_ (stC ?_ (stC ?_ (stC ?_ (stC ?_ (stC ?_ (trivial))))))))))))))))
     ·intro s0 s1 s2 s3 s4 s5 s6 s7 s8 s9 s10 s11 s12 s13 s14 s15 hc hi hp a w hS
      obtain rfl : s0 = false := hi
      obtain ⟨bb9, AA10, cc10, AA11, cc11, AA12, cc12, bb13, hF1, hM⟩ := hS
      refine eP 42 (v0 := .slice G n_ gc) (v := .slice G n_ gc) hF1 (by kernel_rfl) (fun _ => by kernel_rfl) rfl fun a1 hF1 => ?_
      exact ⟨bb9, AA10, cc10, AA11, cc11, AA12, cc12, bb13, ((hF1.repl 10 (by kernel_rfl)).cast (by kernel_rfl)), (hM.cast (by kernel_rfl))⟩
     ·intro s0 s1 s2 s3 s4 s5 s6 s7 s8 s9 s10 s11 s12 s13 s14 s15 hc hi hp a w hS
      obtain rfl : s1 = false := hi
      obtain ⟨bb9, AA10, cc10, AA11, cc11, AA12, cc12, bb13, hF1, hM⟩ := hS
      refine eP 43 (v0 := .slice G n_ gc) (v := .slice G n_ gc) hF1 (by kernel_rfl) (fun _ => by kernel_rfl) rfl fun a1 hF1 => ?_
      exact ⟨bb9, AA10, cc10, AA11, cc11, AA12, cc12, bb13, ((hF1.repl 11 (by kernel_rfl)).cast (by kernel_rfl)), (hM.cast (by kernel_rfl))⟩
     ·intro s0 s1 s2 s3 s4 s5 s6 s7 s8 s9 s10 s11 s12 s13 s14 s15 hc hi hp a w hS
      obtain rfl : s2 = false := hi
      obtain rfl : s1 = true := hp 1 (by kernel_rfl)
      obtain ⟨bb9, AA10, cc10, AA11, cc11, AA12, cc12, bb13, hF1, hM⟩ := hS
      refine eP 44 (v0 := .int .i64 (n_ : Int)) (v := .int .i64 (n_ : Int)) hF1 (by kernel_rfl) (fun _ => by kernel_rfl) rfl fun a1 hF1 => ?_
      exact ⟨bb9, AA10, cc10, AA11, cc11, AA12, cc12, bb13, ((hF1.repl 12 (by kernel_rfl)).cast (by kernel_rfl)), (hM.cast (by kernel_rfl))⟩
     ·intro s0 s1 s2 s3 s4 s5 s6 s7 s8 s9 s10 s11 s12 s13 s14 s15 hc hi hp a w hS
      obtain rfl : s3 = false := hi
      obtain ⟨bb9, AA10, cc10, AA11, cc11, AA12, cc12, bb13, hF1, hM⟩ := hS
      refine eP 45 (v0 := .slice G n_ gc) (v := .slice G n_ gc) hF1 (by kernel_rfl) (fun _ => by kernel_rfl) rfl fun a1 hF1 => ?_
      exact ⟨bb9, AA10, cc10, AA11, cc11, AA12, cc12, bb13, ((hF1.repl 13 (by kernel_rfl)).cast (by kernel_rfl)), (hM.cast (by kernel_rfl))⟩
     ·intro s0 s1 s2 s3 s4 s5 s6 s7 s8 s9 s10 s11 s12 s13 s14 s15 hc hi hp a w hS
      obtain rfl : s4 = false := hi
      obtain rfl : s3 = true := hp 3 (by kernel_rfl)
      obtain ⟨bb9, AA10, cc10, AA11, cc11, AA12, cc12, bb13, hF1, hM⟩ := hS
      refine eP 46 (v0 := .int .i64 (n_ : Int)) (v := .int .i64 (n_ : Int)) hF1 (by kernel_rfl) (fun _ => by kernel_rfl) rfl fun a1 hF1 => ?_
      exact ⟨bb9, AA10, cc10, AA11, cc11, AA12, cc12, bb13, ((hF1.repl 14 (by kernel_rfl)).cast (by kernel_rfl)), (hM.cast (by kernel_rfl))⟩
     ·intro s0 s1 s2 s3 s4 s5 s6 s7 s8 s9 s10 s11 s12 s13 s14 s15 hc hi hp a w hS
      obtain rfl : s5 = false := hi
      obtain rfl : s4 = true := hp 4 (by kernel_rfl)
      obtain rfl : s2 = true := hp 2 (by kernel_rfl)
      obtain rfl : s0 = true := hp 0 (by kernel_rfl)
      obtain ⟨bb9, AA10, cc10, AA11, cc11, AA12, cc12, bb13, hF1, hM⟩ := hS
      refine eM 47 (v := .slice G n_ n_) hF1 hM (by kernel_rfl) (yld_slice3 (e := 57) (len := n_) (cap := gc) (m := n_) (c := n_) (A := G) (i := (n_ : Int)) (j := (n_ : Int)) hF1 rfl (by kernel_rfl) (by kernel_rfl) (by kernel_rfl) (by kernel_rfl) (by kernel_rfl) (by kernel_rfl) rfl rfl (Nat.le_refl _) cap3_7) fun a1 w hF1 hM => ?_
      exact ⟨bb9, AA10, cc10, AA11, cc11, AA12, cc12, bb13, ((hF1.repl 15 (by kernel_rfl)).cast (by kernel_rfl)), (hM.cast (by kernel_rfl))⟩
     ·intro s0 s1 s2 s3 s4 s5 s6 s7 s8 s9 s10 s11 s12 s13 s14 s15 hc hi hp a w hS
      obtain rfl : s6 = false := hi
      obtain ⟨bb9, AA10, cc10, AA11, cc11, AA12, cc12, bb13, hF1, hM⟩ := hS
      refine eL 48 8 0 (v := .agg #[.int .i64 ma0, .int .i64 (1 + ma1), .int .i64 (rc lsl k 2), .int .i64 (84 + ma3), .int .i64 (rc lsl k 4), .int .i64 (rc lsl k 5), .int .i64 (rc lsl k 6)]) hF1 hM (by kernel_rfl) rfl rfl (by kernel_rfl) (by kernel_rfl) fun a1 w hF1 hM => ?_
      exact ⟨bb9, AA10, cc10, AA11, cc11, AA12, cc12, bb13, ((hF1.repl 16 (by kernel_rfl)).cast (by kernel_rfl)), (hM.cast (by kernel_rfl))⟩
     ·intro s0 s1 s2 s3 s4 s5 s6 s7 s8 s9 s10 s11 s12 s13 s14 s15 hc hi hp a w hS
      obtain rfl : s7 = false := hi
      obtain rfl : s6 = true := hp 6 (by kernel_rfl)
      obtain ⟨bb9, AA10, cc10, AA11, cc11, AA12, cc12, bb13, hF1, hM⟩ := hS
      refine eN 49 14 (t := 57) (fun b => .slice (some ⟨b, 0, none⟩) 1 1) #[.int .i64 ma0, .int .i64 (1 + ma1), .int .i64 (rc lsl k 2), .int .i64 (84 + ma3), .int .i64 (rc lsl k 4), .int .i64 (rc lsl k 5), .int .i64 (rc lsl k 6)] hF1 hM (by kernel_rfl) (fun _ => by kernel_rfl) fun bb9 a1 w hF1 hM => ?_
      exact ⟨bb9, AA10, cc10, AA11, cc11, AA12, cc12, bb13, ((hF1.repl 17 (by kernel_rfl)).cast (by kernel_rfl)), ((hM.repl 8 (by kernel_rfl)).cast (by kernel_rfl))⟩
     ·intro s0 s1 s2 s3 s4 s5 s6 s7 s8 s9 s10 s11 s12 s13 s14 s15 hc hi hp a w hS
      obtain rfl : s8 = false := hi
      obtain rfl : s7 = true := hp 7 (by kernel_rfl)
      obtain rfl : s5 = true := hp 5 (by kernel_rfl)
      obtain rfl : s9 = false := hc.f 9 8 (by kernel_rfl) rfl
      obtain rfl : s10 = false := hc.f 10 9 (by kernel_rfl) rfl
      obtain rfl : s11 = false := hc.f 11 10 (by kernel_rfl) rfl
      obtain rfl : s14 = false := hc.f 14 8 (by kernel_rfl) rfl
      obtain ⟨bb9, AA10, cc10, AA11, cc11, AA12, cc12, bb13, hF1, hM⟩ := hS
      refine sAppG 50 15 (e := 57) (size := 7) (bytes := 56) (z := .agg #[.int .i64 0, .int .i64 0, .int .i64 0, .int .i64 0, .int .i64 0, .int .i64 0, .int .i64 0]) (m := 1) (c := 1) (l := n_) (A := G) (xs := (flatR la)) (news := [.int .i64 ma0, .int .i64 (1 + ma1), .int .i64 (rc lsl k 2), .int .i64 (84 + ma3), .int .i64 (rc lsl k 4), .int .i64 (rc lsl k 5), .int .i64 (rc lsl k 6)]) (flatR (la ++ [[ma0, 1 + ma1, rc lsl k 2, 84 + ma3, rc lsl k 4, rc lsl k 5, rc lsl k 6]])) hF1 hM (by kernel_rfl) rfl (by kernel_rfl) (by kernel_rfl) (by kernel_rfl) rfl rfl (by rw [flatR_length (show WR 7 la from by assumption)]; omega) (roO 7 rfl) (fun h => (own_nil hM (k := 7) rfl h).1) rfl (roR 14 rfl) (by decide) (by omega) (by decide) (flatR_append la [[ma0, 1 + ma1, rc lsl k 2, 84 + ma3, rc lsl k 4, rc lsl k 5, rc lsl k 6]]).symm fun AA10 cc10 a1 w hF1 hM => ?_
      exact ⟨bb9, AA10, cc10, AA11, cc11, AA12, cc12, bb13, ((hF1.repl 18 (by kernel_rfl)).cast (by kernel_rfl)), ((hM.repl 9 (by kernel_rfl)).cast (by kernel_rfl))⟩
     ·intro s0 s1 s2 s3 s4 s5 s6 s7 s8 s9 s10 s11 s12 s13 s14 s15 hc hi hp a w hS
      obtain rfl : s9 = false := hi
      obtain rfl : s8 = true := hp 8 (by kernel_rfl)
      obtain rfl : s10 = false := hc.f 10 9 (by kernel_rfl) rfl
      obtain rfl : s11 = false := hc.f 11 10 (by kernel_rfl) rfl
      obtain rfl : s14 = false := hc.f 14 9 (by kernel_rfl) rfl
      obtain ⟨bb9, AA10, cc10, AA11, cc11, AA12, cc12, bb13, hF1, hM⟩ := hS
      refine sRo2 16 17 (f := 13) (args := #[.slice AA10 (n_ + 1) cc10, .slice none 0 0]) (mk := (fun x y => .tuple #[.agg #[.slice AA10 (n_ + 1) cc10, .slice none 0 0, .int .i64 (-1000), x, y], .int .i64 0])) (A3 := none) (A4 := none) (n3 := nl.length) (n4 := nm.length) (xs := (nl.map (Value.int .i64))) (ys := (flatR nm)) hF1 hM (by kernel_rfl) rfl (by decide) (by kernel_rfl) (fun _ => by kernel_rfl) (fiNew_okx AA10 (la ++ [[ma0, 1 + ma1, rc lsl k 2, 84 + ma3, rc lsl k 4, rc lsl k 5, rc lsl k 6]]) cc10 none ([] : List (List Int)) 0 w (ro_of_own (hM.ok 15 _ rfl)) (WR.app (show WR 7 la from by assumption) (show WR 7 ([[ma0, 1 + ma1, rc lsl k 2, 84 + ma3, rc lsl k 4, rc lsl k 5, rc lsl k 6]] : List (List Int)) from by unfold WR; simp)) Ro.nil WR.nil (by simp; omega) rfl hz7 enl enm lnl lnm) (.inr Free.none_) (.inr Free.none_) fun AA11 cc11 AA12 cc12 a1 w hF1 hM => ?_
      exact ⟨bb9, AA10, cc10, AA11, cc11, AA12, cc12, bb13, ((hF1.repl 19 (by kernel_rfl)).cast (by kernel_rfl)), (((hM.repl 12 (by kernel_rfl)).repl 10 (by kernel_rfl)).cast (by kernel_rfl))⟩
     ·intro s0 s1 s2 s3 s4 s5 s6 s7 s8 s9 s10 s11 s12 s13 s14 s15 hc hi hp a w hS
      obtain rfl : s10 = false := hi
      obtain rfl : s9 = true := hp 9 (by kernel_rfl)
      obtain rfl : s8 = true := hc 9 8 (by kernel_rfl) rfl
      obtain ⟨bb9, AA10, cc10, AA11, cc11, AA12, cc12, bb13, hF1, hM⟩ := hS
      refine eP 41 (v0 := .tuple #[.agg #[.slice AA10 (n_ + 1) cc10, .slice none 0 0, .int .i64 (-1000), .slice AA11 nl.length cc11, .slice AA12 nm.length cc12], .int .i64 0]) (v := .tuple #[.agg #[.slice AA10 (n_ + 1) cc10, .slice none 0 0, .int .i64 (-1000), .slice AA11 nl.length cc11, .slice AA12 nm.length cc12], .int .i64 0]) hF1 (by kernel_rfl) (fun _ => by kernel_rfl) rfl fun a1 hF1 => ?_
      exact ⟨bb9, AA10, cc10, AA11, cc11, AA12, cc12, bb13, ((hF1.repl 9 (by kernel_rfl)).cast (by kernel_rfl)), (hM.cast (by kernel_rfl))⟩
     ·intro s0 s1 s2 s3 s4 s5 s6 s7 s8 s9 s10 s11 s12 s13 s14 s15 hc hi hp a w hS
      obtain rfl : s11 = false := hi
      obtain rfl : s10 = true := hp 10 (by kernel_rfl)
      obtain rfl : s9 = true := hc 10 9 (by kernel_rfl) rfl
      obtain rfl : s8 = true := hc 9 8 (by kernel_rfl) rfl
      obtain ⟨bb9, AA10, cc10, AA11, cc11, AA12, cc12, bb13, hF1, hM⟩ := hS
      refine eP 52 (v0 := .agg #[.slice AA10 (n_ + 1) cc10, .slice none 0 0, .int .i64 (-1000), .slice AA11 nl.length cc11, .slice AA12 nm.length cc12]) (v := .agg #[.slice AA10 (n_ + 1) cc10, .slice none 0 0, .int .i64 (-1000), .slice AA11 nl.length cc11, .slice AA12 nm.length cc12]) hF1 (by kernel_rfl) (fun _ => by kernel_rfl) rfl fun a1 hF1 => ?_
      exact ⟨bb9, AA10, cc10, AA11, cc11, AA12, cc12, bb13, ((hF1.repl 20 (by kernel_rfl)).cast (by kernel_rfl)), (hM.cast (by kernel_rfl))⟩
     ·intro s0 s1 s2 s3 s4 s5 s6 s7 s8 s9 s10 s11 s12 s13 s14 s15 hc hi hp a w hS
      obtain rfl : s12 = false := hi
      obtain rfl : s10 = true := hp 10 (by kernel_rfl)
      obtain rfl : s9 = true := hc 10 9 (by kernel_rfl) rfl
      obtain rfl : s8 = true := hc 9 8 (by kernel_rfl) rfl
      obtain ⟨bb9, AA10, cc10, AA11, cc11, AA12, cc12, bb13, hF1, hM⟩ := hS
      refine eP 53 (v0 := .int .i64 0) (v := .int .i64 0) hF1 (by kernel_rfl) (fun _ => by kernel_rfl) rfl fun a1 hF1 => ?_
      exact ⟨bb9, AA10, cc10, AA11, cc11, AA12, cc12, bb13, ((hF1.repl 21 (by kernel_rfl)).cast (by kernel_rfl)), (hM.cast (by kernel_rfl))⟩
     ·intro s0 s1 s2 s3 s4 s5 s6 s7 s8 s9 s10 s11 s12 s13 s14 s15 hc hi hp a w hS
      obtain rfl : s13 = false := hi
      obtain rfl : s14 = false := hc.f 14 13 (by kernel_rfl) rfl
      obtain ⟨bb9, AA10, cc10, AA11, cc11, AA12, cc12, bb13, hF1, hM⟩ := hS
      refine eN 7 18 (t := 27) (fun b => .pointer (some ⟨b, 0, none⟩)) #[.slice none 0 0, .slice none 0 0, .int .i64 0, .slice none 0 0, .slice none 0 0] hF1 hM (by kernel_rfl) (fun _ => by kernel_rfl) fun bb13 a1 w hF1 hM => ?_
      exact ⟨bb9, AA10, cc10, AA11, cc11, AA12, cc12, bb13, ((hF1.repl 4 (by kernel_rfl)).cast (by kernel_rfl)), ((hM.repl 12 (by kernel_rfl)).cast (by kernel_rfl))⟩
     ·intro s0 s1 s2 s3 s4 s5 s6 s7 s8 s9 s10 s11 s12 s13 s14 s15 hc hi hp a w hS
      obtain rfl : s14 = false := hi
      obtain rfl : s13 = true := hp 13 (by kernel_rfl)
      obtain rfl : s11 = true := hp 11 (by kernel_rfl)
      obtain rfl : s9 = true := hp 9 (by kernel_rfl)
      obtain rfl : s8 = true := hp 8 (by kernel_rfl)
      obtain ⟨bb9, AA10, cc10, AA11, cc11, AA12, cc12, bb13, hF1, hM⟩ := hS
      refine sStore (i := 18) (off := 0) (cs' := #[.slice AA10 (n_ + 1) cc10, .slice none 0 0, .int .i64 (-1000), .slice AA11 nl.length cc11, .slice AA12 nm.length cc12]) hF1 hM (by kernel_rfl) rfl rfl (by kernel_rfl) (by kernel_rfl) rfl (by kernel_rfl) fun w hM => ?_
      exact ⟨bb9, AA10, cc10, AA11, cc11, AA12, cc12, bb13, (hF1.cast (by kernel_rfl)), ((hM.repl 12 (by kernel_rfl)).cast (by kernel_rfl))⟩
     ·intro s0 s1 s2 s3 s4 s5 s6 s7 s8 s9 s10 s11 s12 s13 s14 s15 hc hi hp a w hS
      obtain rfl : s15 = false := hi
      obtain rfl : s12 = true := hp 12 (by kernel_rfl)
      obtain ⟨bb9, AA10, cc10, AA11, cc11, AA12, cc12, bb13, hF1, hM⟩ := hS
      refine eP 8 (v0 := .int .i64 0) (v := .int .i64 0) hF1 (by kernel_rfl) (fun _ => by kernel_rfl) rfl fun a1 hF1 => ?_
      exact ⟨bb9, AA10, cc10, AA11, cc11, AA12, cc12, bb13, ((hF1.repl 5 (by kernel_rfl)).cast (by kernel_rfl)), (hM.cast (by kernel_rfl))⟩
    ·intro a1 w hS
     obtain ⟨bb9, AA10, cc10, AA11, cc11, AA12, cc12, bb13, hF1, hM⟩ := hS
     replace hF1 : Fr 73 [(2, some (.pointer (some ⟨bb2, 0, none⟩))), (3, some (.bool false)), (4, some (.slice G n_ gc)), (6, some (.pointer (some ⟨bb3, 0, none⟩))), (7, some (.pointer (some ⟨bb13, 0, none⟩))), (8, some (.int .i64 0)), (15, some (.slice A lsl.length c)), (16, some (.int .i64 (lsl.length : Int))), (17, some (.int .i64 (k : Int))), (41, some (.tuple #[.agg #[.slice AA10 (n_ + 1) cc10, .slice none 0 0, .int .i64 (-1000), .slice AA11 nl.length cc11, .slice AA12 nm.length cc12], .int .i64 0])), (42, some (.slice G n_ gc)), (43, some (.slice G n_ gc)), (44, some (.int .i64 (n_ : Int))), (45, some (.slice G n_ gc)), (46, some (.int .i64 (n_ : Int))), (47, some (.slice G n_ n_)), (48, some (.agg #[.int .i64 ma0, .int .i64 (1 + ma1), .int .i64 (rc lsl k 2), .int .i64 (84 + ma3), .int .i64 (rc lsl k 4), .int .i64 (rc lsl k 5), .int .i64 (rc lsl k 6)])), (49, some (.slice (some ⟨bb9, 0, none⟩) 1 1)), (50, some (.slice AA10 (n_ + 1) cc10)), (51, some (.tuple #[.agg #[.slice AA10 (n_ + 1) cc10, .slice none 0 0, .int .i64 (-1000), .slice AA11 nl.length cc11, .slice AA12 nm.length cc12], .int .i64 0])), (52, some (.agg #[.slice AA10 (n_ + 1) cc10, .slice none 0 0, .int .i64 (-1000), .slice AA11 nl.length cc11, .slice AA12 nm.length cc12])), (53, some (.int .i64 0))] a1 := hF1.cast (by kernel_rfl)
     replace hM : Mem w0.heap.size w0 [(1, some (.ro A (flatR l))), (2, some (.ro B1 (flatK [.u16, .u8, .u8, .u8, .u8] f1))), (3, some (.ro B2 (flatK [.u16, .u8, .u8, .u8, .u8] f2))), (4, some (.row bb1 54 #[.int .u16 y0, .int .u8 y1, .int .u8 y2, .int .u8 y3, .int .u8 y4])), (5, some (.row bb2 27 #[.slice none 0 0, .slice none 0 0, .int .i64 0, .slice none 0 0, .slice none 0 0])), (6, some (.ro A (flatR lsl))), (7, some (.own (.slice G n_ gc) 57 7 n_ (flatR la))), (8, some (.row bb3 57 #[.int .i64 ma0, .int .i64 (1 + ma1), .int .i64 (rc lsl k 2), .int .i64 (84 + ma3), .int .i64 (rc lsl k 4), .int .i64 (rc lsl k 5), .int .i64 (rc lsl k 6)])), (14, some (.row bb9 57 #[.int .i64 ma0, .int .i64 (1 + ma1), .int .i64 (rc lsl k 2), .int .i64 (84 + ma3), .int .i64 (rc lsl k 4), .int .i64 (rc lsl k 5), .int .i64 (rc lsl k 6)])), (15, some (.own (.slice AA10 (n_ + 1) cc10) 57 7 (n_ + 1) (flatR (la ++ [[ma0, 1 + ma1, rc lsl k 2, 84 + ma3, rc lsl k 4, rc lsl k 5, rc lsl k 6]])))), (16, some (.ro AA11 (nl.map (Value.int .i64)))), (17, some (.ro AA12 (flatR nm))), (18, some (.row bb13 27 #[.slice AA10 (n_ + 1) cc10, .slice none 0 0, .int .i64 (-1000), .slice AA11 nl.length cc11, .slice AA12 nm.length cc12]))] w := hM.cast (by kernel_rfl)
     refine hK17 _ _ ?_
     refine wp_seq_k fun K19 hK19 => ?_
     refine wp_region_lit ?_
     refine sB 1 [(54, .int .i64 0)] hF1 (by kernel_rfl) fun a1 hF1 => ?_
     refine wl (eP 55 (v0 := .bool (decide (0 = 0))) (v := .bool true) hF1 (by kernel_rfl) (fun _ => by kernel_rfl) (bT (by omega)) fun a1 hF1 => ?_)
     refine wpList_nil ?_
     refine hK19 _ _ ?_
     refine cT hF1 (by kernel_rfl) (by kernel_rfl) ?_
     refine wp_region_lit ?_
     refine sB 1 [(56, .slice G n_ gc)] hF1 (by kernel_rfl) fun a1 hF1 => ?_
     refine wl (eL 57 8 0 (v := .agg #[.int .i64 ma0, .int .i64 (1 + ma1), .int .i64 (rc lsl k 2), .int .i64 (84 + ma3), .int .i64 (rc lsl k 4), .int .i64 (rc lsl k 5), .int .i64 (rc lsl k 6)]) hF1 hM (by kernel_rfl) rfl rfl (by kernel_rfl) (by kernel_rfl) fun a1 w hF1 hM => ?_)
     refine wl (eN 58 19 (t := 57) (fun b => .slice (some ⟨b, 0, none⟩) 1 1) #[.int .i64 ma0, .int .i64 (1 + ma1), .int .i64 (rc lsl k 2), .int .i64 (84 + ma3), .int .i64 (rc lsl k 4), .int .i64 (rc lsl k 5), .int .i64 (rc lsl k 6)] hF1 hM (by kernel_rfl) (fun _ => by kernel_rfl) fun bb14 a1 w hF1 hM => ?_)
     refine wl (sApp 59 7 (e := 57) (size := 7) (bytes := 56) (z := .agg #[.int .i64 0, .int .i64 0, .int .i64 0, .int .i64 0, .int .i64 0, .int .i64 0, .int .i64 0]) (m := 1) (c := 1) (l := n_) (cap := gc) (A := G) (news := [.int .i64 ma0, .int .i64 (1 + ma1), .int .i64 (rc lsl k 2), .int .i64 (84 + ma3), .int .i64 (rc lsl k 4), .int .i64 (rc lsl k 5), .int .i64 (rc lsl k 6)]) (flatR (la ++ [[ma0, 1 + ma1, rc lsl k 2, 84 + ma3, rc lsl k 4, rc lsl k 5, rc lsl k 6]])) hF1 hM (by kernel_rfl) rfl (by kernel_rfl) (by kernel_rfl) (by kernel_rfl) rfl rfl rfl rfl (roR 19 rfl) (by simp [Value.oneCell']) (by omega) (by decide) (flatR_append la [[ma0, 1 + ma1, rc lsl k 2, 84 + ma3, rc lsl k 4, rc lsl k 5, rc lsl k 6]]).symm fun AA15 cc15 a1 w hF1 hM => ?_)
     refine sB 1 [(4, .slice AA15 (n_ + 1) cc15)] hF1 (by kernel_rfl) fun a1 hF1 => ?_
     refine wpList_nil ?_
     refine hK13 _ _ ?_
     refine wp_region_lit ?_
     refine wl (eP 60 (v0 := .int .i64 (IntKind.i64.wrap ((k : Int) + 1))) (v := .int .i64 ((k : Int) + 1)) hF1 (by kernel_rfl) (fun _ => by kernel_rfl) (wi (by omega)) fun a1 hF1 => ?_)
     refine sB 1 [(17, .int .i64 ((k : Int) + 1))] hF1 (by kernel_rfl) fun a1 hF1 => ?_
     refine wpList_nil ?_
     refine hK10 _ _ ⟨(k + 1, la ++ [[ma0, 1 + ma1, rc lsl k 2, 84 + ma3, rc lsl k 4, rc lsl k 5, rc lsl k 6]], n_ + 1, AA15, cc15), ⟨(((((((Fr.nil hF1).c hF1 (i := 16) rfl rfl).c hF1 (i := 15) rfl rfl).c hF1 (i := 3) rfl rfl).c hF1 (i := 2) rfl rfl).c hF1 (i := 17) rfl (vi (show ((k : Int) + 1 : Int) = ((k + 1) : Int) from by omega))).c hF1 (i := 4) rfl rfl), (hM.sub (((((((Sub.nil.c (k := 7) rfl rfl).c (k := 6) rfl rfl).c (k := 5) rfl rfl).c (k := 4) rfl rfl).c (k := 3) rfl rfl).c (k := 2) rfl rfl).c (k := 1) rfl rfl)), (show ((k + 1) : Int) ≤ (lsl.length : Int) from by omega), (show liB (la ++ [[ma0, 1 + ma1, rc lsl k 2, 84 + ma3, rc lsl k 4, rc lsl k 5, rc lsl k 6]]) [] = true from by exact hz7), (show WR 7 (la ++ [[ma0, 1 + ma1, rc lsl k 2, 84 + ma3, rc lsl k 4, rc lsl k 5, rc lsl k 6]]) from by exact WR.app (by assumption) (by unfold WR; simp)), (show ((la ++ [[ma0, 1 + ma1, rc lsl k 2, 84 + ma3, rc lsl k 4, rc lsl k 5, rc lsl k 6]]).length : Int) = ((n_ + 1) : Int) from by simp; omega), (show ((n_ + 1) : Int) ≤ ((k + 1) : Int) from by omega)⟩, (show lsl.length - (k + 1) < lsl.length - k from by omega)⟩
  ·skip
   replace hF1 := hF1.c hF1 (i := 18) (v := .bool false) rfl (bF hz6)
   refine cF hF1 (by kernel_rfl) (by kernel_rfl) ?_
   refine wp_exit ?_
   refine hK8 _ _ ?_
   refine wp_seq_k fun K20 hK20 => ?_
   obtain rfl : n_ = la.length := by omega
   have hla0 : liB la [] = true := by assumption
   have hla := li_pol hla0
   have hWla : WR 7 la := by assumption
   refine wp_region_lit ?_
   refine sB 4 [(62, .slice G la.length gc), (63, .agg #[.int .i64 200, .int .i64 1000]), (64, .agg #[.int .i64 300, .int .i64 4000]), (65, .agg #[.int .i64 1, .int .i64 200, .int .i64 1000, .int .i64 300, .int .i64 4000])] hF1 (by kernel_rfl) fun a1 hF1 => ?_
   refine wl (eN 66 20 (t := 69) (fun b => .slice (some ⟨b, 0, none⟩) 1 1) #[.int .i64 1, .int .i64 200, .int .i64 1000, .int .i64 300, .int .i64 4000] hF1 hM (by kernel_rfl) (fun _ => by kernel_rfl) fun bb16 a1 w hF1 hM => ?_)
   obtain ⟨nl, enl⟩ : ∃ z, nwL la = z := ⟨_, rfl⟩
   obtain ⟨nm, enm⟩ : ∃ z, nwM [[1, 200, 1000, 300, 4000]] = z := ⟨_, rfl⟩
   have hnm : WR 3 nm := enm ▸ nwM_wr
   have lnl : la.length = nl.length := by rw [← enl]; exact nwL_len.symm
   have lnm : ([[1, 200, 1000, 300, 4000]] : List (List Int)).length = nm.length := by rw [← enm]; exact nwM_len.symm
   have fnl : flE la [[1, 200, 1000, 300, 4000]] (-1000) nl nm = 0 := by rw [← enl, ← enm]; exact fl_new hla
   have gnl := fl_len (fl_p fnl)
   refine wl (sRo2 21 22 (f := 13) (args := #[.slice G la.length gc, .slice (some ⟨bb16, 0, none⟩) 1 1]) (mk := (fun x y => .tuple #[.agg #[.slice G la.length gc, .slice (some ⟨bb16, 0, none⟩) 1 1, .int .i64 (-1000), x, y], .int .i64 0])) (A3 := none) (A4 := none) (n3 := nl.length) (n4 := nm.length) (xs := (nl.map (Value.int .i64))) (ys := (flatR nm)) hF1 hM (by kernel_rfl) rfl (by decide) (by kernel_rfl) (fun _ => by kernel_rfl) (fiNew_okx G la gc (some ⟨bb16, 0, none⟩) [[1, 200, 1000, 300, 4000]] 1 w (ro_of_own (hM.ok 7 _ rfl)) hWla (hM.roRow (k := 20) rfl) (show WR 5 ([[1, 200, 1000, 300, 4000]] : List (List Int)) from by unfold WR; simp) rfl rfl hla enl enm lnl lnm) (.inr Free.none_) (.inr Free.none_) fun AA17 cc17 AA18 cc18 a1 w hF1 hM => ?_)
   refine sB 3 [(61, .tuple #[.agg #[.slice G la.length gc, .slice (some ⟨bb16, 0, none⟩) 1 1, .int .i64 (-1000), .slice AA17 nl.length cc17, .slice AA18 nm.length cc18], .int .i64 0]), (68, .agg #[.slice G la.length gc, .slice (some ⟨bb16, 0, none⟩) 1 1, .int .i64 (-1000), .slice AA17 nl.length cc17, .slice AA18 nm.length cc18]), (69, .int .i64 0)] hF1 (by kernel_rfl) fun a1 hF1 => ?_
   refine wl (eN 9 23 (t := 27) (fun b => .pointer (some ⟨b, 0, none⟩)) #[.slice none 0 0, .slice none 0 0, .int .i64 0, .slice none 0 0, .slice none 0 0] hF1 hM (by kernel_rfl) (fun _ => by kernel_rfl) fun bb19 a1 w hF1 hM => ?_)
   refine wl (sStore (i := 23) (off := 0) (cs' := #[.slice G la.length gc, .slice (some ⟨bb16, 0, none⟩) 1 1, .int .i64 (-1000), .slice AA17 nl.length cc17, .slice AA18 nm.length cc18]) hF1 hM (by kernel_rfl) rfl rfl (by kernel_rfl) (by kernel_rfl) rfl (by kernel_rfl) fun w hM => ?_)
   refine sB 1 [(10, .int .i64 0)] hF1 (by kernel_rfl) fun a1 hF1 => ?_
   refine wpList_nil ?_
   refine hK20 _ _ ?_
   refine wp_seq_k fun K21 hK21 => ?_
   refine wp_region_lit ?_
   refine wl (eL 70 23 0 (v := .agg #[.slice G la.length gc, .slice (some ⟨bb16, 0, none⟩) 1 1, .int .i64 (-1000), .slice AA17 nl.length cc17, .slice AA18 nm.length cc18]) hF1 hM (by kernel_rfl) rfl rfl (by kernel_rfl) (by kernel_rfl) fun a1 w hF1 hM => ?_)
   refine sB 1 [(71, .int .i64 0)] hF1 (by kernel_rfl) fun a1 hF1 => ?_
   refine wl (eP 72 (v0 := .bool (decide (0 = 0))) (v := .bool true) hF1 (by kernel_rfl) (fun _ => by kernel_rfl) (bT (by omega)) fun a1 hF1 => ?_)
   refine wl (sStore (i := 5) (off := 0) (cs' := #[.slice G la.length gc, .slice (some ⟨bb16, 0, none⟩) 1 1, .int .i64 (-1000), .slice AA17 nl.length cc17, .slice AA18 nm.length cc18]) hF1 hM (by kernel_rfl) rfl rfl (by kernel_rfl) (by kernel_rfl) rfl (by kernel_rfl) fun w hM => ?_)
   refine sB 1 [(3, .bool true)] hF1 (by kernel_rfl) fun a1 hF1 => ?_
   refine wpList_nil ?_
   refine hK21 _ _ ?_
   refine wp_ret ?_
   refine hR5 _ _ ?_
   refine ret_of hF1 hM (.cell (i := 5) rfl rfl (v := .agg #[.slice G la.length gc, .slice (some ⟨bb16, 0, none⟩) 1 1, .int .i64 (-1000), .slice AA17 nl.length cc17, .slice AA18 nm.length cc18]) (by kernel_rfl) (.tmp rfl (.nil))) ⟨_, rfl, ?_⟩
   intro a hF
   refine sB 3 [(34, .tuple #[.agg #[.slice G la.length gc, .slice (some ⟨bb16, 0, none⟩) 1 1, .int .i64 (-1000), .slice AA17 nl.length cc17, .slice AA18 nm.length cc18], .bool true]), (37, .agg #[.slice G la.length gc, .slice (some ⟨bb16, 0, none⟩) 1 1, .int .i64 (-1000), .slice AA17 nl.length cc17, .slice AA18 nm.length cc18]), (38, .bool true)] hF (by kernel_rfl) fun a hF => ?_
   refine wl (eN 9 24 (t := 27) (fun b => .pointer (some ⟨b, 0, none⟩)) #[.slice none 0 0, .slice none 0 0, .int .i64 0, .slice none 0 0, .slice none 0 0] hF hM (by kernel_rfl) (fun _ => by kernel_rfl) fun bb20 a w hF hM => ?_)
   refine wl (sStore (i := 24) (off := 0) (cs' := #[.slice G la.length gc, .slice (some ⟨bb16, 0, none⟩) 1 1, .int .i64 (-1000), .slice AA17 nl.length cc17, .slice AA18 nm.length cc18]) hF hM (by kernel_rfl) rfl rfl (by kernel_rfl) (by kernel_rfl) rfl (by kernel_rfl) fun w hM => ?_)
   refine sB 1 [(10, .bool true)] hF (by kernel_rfl) fun a hF => ?_
   refine wpList_nil ?_
   refine hK4 _ _ ?_
   refine wp_seq_k fun K22 hK22 => ?_
   refine wp_seq_k fun K23 hK23 => ?_
   refine wp_region_lit ?_
   refine sB 2 [(39, .bool true), (40, .bool false)] hF (by kernel_rfl) fun a hF => ?_
   refine wpList_nil ?_
   refine hK23 _ _ ?_
   refine cF hF (by kernel_rfl) (by kernel_rfl) ?_
   refine wp_skip ?_
   refine hK22 _ _ ?_
   refine wp_seq_k fun K24 hK24 => ?_
   refine wp_region_lit ?_
   refine sB 1 [(11, .int .i64 0)] hF (by kernel_rfl) fun a hF => ?_
   refine wpList_nil ?_
   refine hK24 _ _ ?_
   refine wp_seq_k fun K25 hK25 => ?_
   refine wp_seq_k fun K26 hK26 => ?_
   obtain ⟨lsl_2, e_lsl_2⟩ : ∃ x : List (List Int), x = f1.take ((min (f1.length : Int) 10).toNat) := ⟨_, rfl⟩
   have len_lsl_2 : (lsl_2.length : Int) = min (f1.length : Int) 10 := by rw [e_lsl_2, List.length_take]; omega
   have hW_lsl_2 : WR 5 lsl_2 := e_lsl_2 ▸ WR.take hV1
   replace hM := hM.roMore 25 2 (xs' := (flatK [.u16, .u8, .u8, .u8, .u8] lsl_2)) rfl (by rw [e_lsl_2]; exact flatK_sub _)
   have hb_lsl_2 : FrB lsl_2 := by rw [e_lsl_2]; exact hb1.take
   refine wp_region_lit ?_
   refine sB 3 [(41, .slice B1 f1.length c1), (42, .slice B1 f1.length c1), (43, .int .i64 (f1.length : Int))] hF (by kernel_rfl) fun a hF => ?_
   refine wl (eP 44 (v0 := .int .i64 (if 10 < (f1.length : Int) then 10 else (f1.length : Int))) (v := .int .i64 (min (f1.length : Int) 10)) hF (by kernel_rfl) (fun _ => by kernel_rfl) (vi (min_if _ _)) fun a hF => ?_)
   refine wl (eM 45 (v := .slice B1 lsl_2.length c1) hF hM (by kernel_rfl) (yld_slice0 (e := 54) (len := f1.length) (cap := c1) (m := lsl_2.length) (A := B1) (i := min (f1.length : Int) 10) hF rfl (by kernel_rfl) (by kernel_rfl) (by kernel_rfl) (by kernel_rfl) (by kernel_rfl) (by omega) (by omega)) fun a w hF hM => ?_)
   refine sB 2 [(46, .int .i64 (lsl_2.length : Int)), (47, .int .i64 0)] hF (by kernel_rfl) fun a hF => ?_
   refine wpList_nil ?_
   refine hK26 _ _ ?_
   refine wp_block ?_
   refine wp_loop_k (G := Nat × Int × List Int × List (List Int) × Option Addr × Nat × Option Addr × Nat × Int) (fun gg a w => Fr 175 [(11, some (.int .i64 gg.2.2.2.2.2.2.2.2)), (47, some (.int .i64 (gg.1 : Int))), (2, some (.slice B2 f2.length c2)), (7, some (.pointer (some ⟨bb1, 0, none⟩))), (9, some (.pointer (some ⟨bb20, 0, none⟩))), (45, some (.slice B1 lsl_2.length c1)), (46, some (.int .i64 (lsl_2.length : Int)))] a ∧ Mem w0.heap.size w0 [(1, some (.ro A (flatR l))), (2, some (.ro B1 (flatK [.u16, .u8, .u8, .u8, .u8] f1))), (3, some (.ro B2 (flatK [.u16, .u8, .u8, .u8, .u8] f2))), (4, some (.row bb1 54 #[.int .u16 y0, .int .u8 y1, .int .u8 y2, .int .u8 y3, .int .u8 y4])), (6, some (.ro A (flatR lsl))), (7, some (.own (.slice G la.length gc) 57 7 la.length (flatR la))), (20, some (.row bb16 69 #[.int .i64 1, .int .i64 200, .int .i64 1000, .int .i64 300, .int .i64 4000])), (21, some (.ro gg.2.2.2.2.1 (gg.2.2.1.map (Value.int .i64)))), (22, some (.ro gg.2.2.2.2.2.2.1 (flatR gg.2.2.2.1))), (24, some (.row bb20 27 #[.slice G la.length gc, .slice (some ⟨bb16, 0, none⟩) 1 1, .int .i64 gg.2.1, .slice gg.2.2.2.2.1 gg.2.2.1.length gg.2.2.2.2.2.1, .slice gg.2.2.2.2.2.2.1 gg.2.2.2.1.length gg.2.2.2.2.2.2.2.1])), (25, some (.ro B1 (flatK [.u16, .u8, .u8, .u8, .u8] lsl_2)))] w ∧ ((gg.1 : Int) ≤ (lsl_2.length : Int)) ∧ (-1000 ≤ gg.2.1) ∧ (flE la [[1, 200, 1000, 300, 4000]] gg.2.1 gg.2.2.1 gg.2.2.2.1 = 0) ∧ (WR 3 gg.2.2.2.1) ∧ ((gg.2.2.1.length : Int) = (la.length : Int)) ∧ ((gg.2.2.2.1.length : Int) = 1) ∧ (0 ≤ gg.2.2.2.2.2.2.2.2 ∧ gg.2.2.2.2.2.2.2.2 ≤ 65535 * (gg.1 : Int)) ∧ (gg.2.1 ≤ gg.2.2.2.2.2.2.2.2)) (fun gg => lsl_2.length - gg.1) (0, -1000, nl, nm, AA17, cc17, AA18, cc18, 0) ?_ ?_
   ·refine ⟨((((((((Fr.nil hF).c hF (i := 46) rfl rfl).c hF (i := 45) rfl rfl).c hF (i := 9) rfl rfl).c hF (i := 7) rfl rfl).c hF (i := 2) rfl rfl).c hF (i := 47) rfl (vi (show (0 : Int) = (0 : Int) from by omega))).c hF (i := 11) rfl rfl), (hM.sub (((((((((((Sub.nil.c (k := 25) rfl rfl).c (k := 24) rfl rfl).c (k := 22) rfl rfl).c (k := 21) rfl rfl).c (k := 20) rfl rfl).c (k := 7) rfl rfl).c (k := 6) rfl rfl).c (k := 4) rfl rfl).c (k := 3) rfl rfl).c (k := 2) rfl rfl).c (k := 1) rfl rfl)), (show (0 : Int) ≤ (lsl_2.length : Int) from by omega), (show -1000 ≤ (-1000) from by omega), (show flE la [[1, 200, 1000, 300, 4000]] (-1000) nl nm = 0 from by exact fnl), (show WR 3 nm from by exact hnm), (show (nl.length : Int) = (la.length : Int) from by omega), (show (nm.length : Int) = 1 from by first | omega | (have := fl_len (fl_p fnl); simp at this; omega)), (show 0 ≤ 0 ∧ 0 ≤ 65535 * (0 : Int) from by omega), (show (-1000) ≤ 0 from by omega)⟩
   ·intro gg a w hI
    intro K27 hK27
    obtain ⟨k1, fn_, lz, mm, G3, g3, G4, g4, tt⟩ := gg
    try dsimp only at hI hK27
    obtain ⟨hF, hM, hz8, hz9, hz10, hz11, hz12, hz13, hz14, hz15⟩ := hI
    have hfl_fn_ : flE la [[1, 200, 1000, 300, 4000]] fn_ lz mm = 0 := by assumption
    refine wp_seq_k fun K28 hK28 => ?_
    refine wp_region_lit ?_
    refine sB 1 [(48, .bool (decide ((k1 : Int) < (lsl_2.length : Int))))] hF (by kernel_rfl) fun a hF => ?_
    refine wpList_nil ?_
    refine hK28 _ _ ?_
    refine wp_seq_k fun K29 hK29 => ?_
    by_cases hz16 : (k1 : Int) < (lsl_2.length : Int)
    ·skip
     replace hF := hF.c hF (i := 48) (v := .bool true) rfl (bT hz16)
     refine cT hF (by kernel_rfl) (by kernel_rfl) ?_
     refine wp_skip ?_
     refine hK29 _ _ ?_
     refine wp_seq_k fun K30 hK30 => ?_
     refine wp_block ?_
     refine wp_seq_k fun K31 hK31 => ?_
     refine wp_region_lit ?_
     refine wl (eM 49 (v := .pointer (some (ea B1 (k1 * 5)))) hF hM (by kernel_rfl) (yld_ix (kd := .i64) (e := 54) (len := lsl_2.length) (cap := c1) (i := (k1 : Int)) (size := 5) (A := B1) hF rfl (by kernel_rfl) (by kernel_rfl) (by kernel_rfl) (by kernel_rfl) (by kernel_rfl) (roK 25 rfl) (by omega) (by omega) (by rw [flatK_length (ks := [.u16, .u8, .u8, .u8, .u8]) hW_lsl_2]; simp only [List.length_map, List.length_append, List.length_replicate, List.length_set, List.length_cons, List.length_nil, flat2_length, List.length_take]; omega)) fun a w hF hM => ?_)
     refine wl (eM 50 (v := .agg #[.int .u16 (rc lsl_2 k1 0), .int .u8 (rc lsl_2 k1 1), .int .u8 (rc lsl_2 k1 2), .int .u8 (rc lsl_2 k1 3), .int .u8 (rc lsl_2 k1 4)]) hF hM (by kernel_rfl) (yld_roM (A := B1) (j := k1 * 5) (us := [.int .u16 (rc lsl_2 k1 0), .int .u8 (rc lsl_2 k1 1), .int .u8 (rc lsl_2 k1 2), .int .u8 (rc lsl_2 k1 3), .int .u8 (rc lsl_2 k1 4)]) hF rfl (by kernel_rfl) (by kernel_rfl) (roK 25 rfl) (by kernel_rfl) rfl (rcK_sub (ks := [.u16, .u8, .u8, .u8, .u8]) (k := k1) (f := 0) hW_lsl_2 (by omega) rfl)) fun a w hF hM => ?_)
     have := fr_bd hb_lsl_2 (k := k1) (by omega)
     refine wl (eN 13 26 (t := 54) (fun b => .pointer (some ⟨b, 0, none⟩)) #[.int .u16 0, .int .u8 0, .int .u8 0, .int .u8 0, .int .u8 0] hF hM (by kernel_rfl) (fun _ => by kernel_rfl) fun bb21 a w hF hM => ?_)
     refine wl (sStore (i := 26) (off := 0) (cs' := #[.int .u16 (rc lsl_2 k1 0), .int .u8 (rc lsl_2 k1 1), .int .u8 (rc lsl_2 k1 2), .int .u8 (rc lsl_2 k1 3), .int .u8 (rc lsl_2 k1 4)]) hF hM (by kernel_rfl) rfl rfl (by kernel_rfl) (by kernel_rfl) rfl (by kernel_rfl) fun w hM => ?_)
     refine wpList_nil ?_
     refine hK31 _ _ ?_
     refine wp_seq_k fun K32 hK32 => ?_
     refine wp_region_lit ?_
     refine sB 2 [(51, .int .i64 tt), (52, .pointer (some ⟨bb21, 0, none⟩))] hF (by kernel_rfl) fun a hF => ?_
     refine wl (eL 53 26 0 (v := .int .u16 (rc lsl_2 k1 0)) hF hM (by kernel_rfl) rfl rfl (by kernel_rfl) (by kernel_rfl) fun a w hF hM => ?_)
     refine wl (eP 54 (v0 := .int .i64 (IntKind.i64.wrap (rc lsl_2 k1 0))) (v := .int .i64 (rc lsl_2 k1 0)) hF (by kernel_rfl) (fun _ => by kernel_rfl) (vi (IntWalk.i64_in _ (by omega))) fun a hF => ?_)
     refine wl (eP 55 (v0 := .int .i64 (IntKind.i64.wrap (tt + rc lsl_2 k1 0))) (v := .int .i64 (tt + rc lsl_2 k1 0)) hF (by kernel_rfl) (fun _ => by kernel_rfl) (wi (by omega)) fun a hF => ?_)
     refine sB 1 [(11, .int .i64 (tt + rc lsl_2 k1 0))] hF (by kernel_rfl) fun a hF => ?_
     refine wpList_nil ?_
     refine hK32 _ _ ?_
     refine wp_seq_k fun K33 hK33 => ?_
     obtain ⟨it1, e_it1⟩ : ∃ x : Int, x = rc lsl_2 k1 2 % 4 := ⟨_, rfl⟩
     obtain ⟨it3, e_it3⟩ : ∃ x : Int, x = rc lsl_2 k1 3 % 8 := ⟨_, rfl⟩
     obtain ⟨it4, e_it4⟩ : ∃ x : Int, x = 84 + rc lsl_2 k1 4 % 4 := ⟨_, rfl⟩
     have hv_it1 : viB it1 0 it3 it4 0 = true := decide_eq_true (by unfold viP; omega)
     obtain ⟨pl, pm, pv, epl⟩ : ∃ x y z, psR la [[1, 200, 1000, 300, 4000]] lz mm (rc lsl_2 k1 1 % 3) it1 it3 it4 (tt + rc lsl_2 k1 0) = (x, y, z) := ⟨_, _, _, rfl⟩
     have lpl := psR_len epl
     have hpm := psR_wr epl (show WR 3 mm from by assumption)
     have fpl := psR_ok (i2 := 0) (i5 := 0) hfl_fn_ hv_it1 ⟨(by omega), (by omega)⟩ epl
     refine rF (by kernel_rfl) (by kernel_rfl) (fun S a w => ∃ AA22 : Option Addr, ∃ cc22 : Nat, ∃ AA23 : Option Addr, ∃ cc23 : Nat, ∃ bb24 : Nat, Fr 175 [(2, some (.slice B2 f2.length c2)), (7, some (.pointer (some ⟨bb1, 0, none⟩))), (9, some (.pointer (some ⟨bb20, 0, none⟩))), (11, some (.int .i64 (tt + rc lsl_2 k1 0))), (13, some (.pointer (some ⟨bb21, 0, none⟩))), (14, (cond (S.getD 13 false) (some (.pointer (some ⟨bb24, 0, none⟩))) none)), (15, (cond (S.getD 15 false) (some (.int .i64 pv)) none)), (16, (cond (S.getD 16 false) (some (.int .i64 0)) none)), (45, some (.slice B1 lsl_2.length c1)), (46, some (.int .i64 (lsl_2.length : Int))), (47, some (.int .i64 (k1 : Int))), (56, (cond (S.getD 9 false) (some (.tuple #[.agg #[.slice G la.length gc, .slice (some ⟨bb16, 0, none⟩) 1 1, .int .i64 (tt + rc lsl_2 k1 0), .slice AA22 pl.length cc22, .slice AA23 pm.length cc23], .int .i64 pv, .int .i64 0])) none)), (57, (cond (S.getD 0 false) (some (.agg #[.slice G la.length gc, .slice (some ⟨bb16, 0, none⟩) 1 1, .int .i64 fn_, .slice G3 lz.length g3, .slice G4 mm.length g4])) none)), (58, (cond (S.getD 1 false) (some (.pointer (some ⟨bb21, 1, none⟩))) none)), (59, (cond (S.getD 2 false) (some (.int .u8 (rc lsl_2 k1 1))) none)), (60, (cond (S.getD 3 false) (some (.int .u8 (rc lsl_2 k1 1 % 3))) none)), (61, (cond (S.getD 4 false) (some (.int .i64 (rc lsl_2 k1 1 % 3))) none)), (62, (cond (S.getD 5 false) (some (.agg #[.int .u16 (rc lsl_2 k1 0), .int .u8 (rc lsl_2 k1 1), .int .u8 (rc lsl_2 k1 2), .int .u8 (rc lsl_2 k1 3), .int .u8 (rc lsl_2 k1 4)])) none)), (63, (cond (S.getD 6 false) (some (.agg #[.int .i64 it1, .int .i64 0, .int .i64 it3, .int .i64 it4, .int .i64 0])) none)), (64, (cond (S.getD 7 false) (some (.int .i64 (tt + rc lsl_2 k1 0))) none)), (65, (cond (S.getD 8 false) (some (.tuple #[.agg #[.slice G la.length gc, .slice (some ⟨bb16, 0, none⟩) 1 1, .int .i64 (tt + rc lsl_2 k1 0), .slice AA22 pl.length cc22, .slice AA23 pm.length cc23], .int .i64 pv, .int .i64 0])) none)), (66, (cond (S.getD 10 false) (some (.agg #[.slice G la.length gc, .slice (some ⟨bb16, 0, none⟩) 1 1, .int .i64 (tt + rc lsl_2 k1 0), .slice AA22 pl.length cc22, .slice AA23 pm.length cc23])) none)), (67, (cond (S.getD 11 false) (some (.int .i64 pv)) none)), (68, (cond (S.getD 12 false) (some (.int .i64 0)) none))] a ∧ Mem w0.heap.size w0 [(1, some (.ro A (flatR l))), (2, some (.ro B1 (flatK [.u16, .u8, .u8, .u8, .u8] f1))), (3, some (.ro B2 (flatK [.u16, .u8, .u8, .u8, .u8] f2))), (4, some (.row bb1 54 #[.int .u16 y0, .int .u8 y1, .int .u8 y2, .int .u8 y3, .int .u8 y4])), (6, some (.ro A (flatR lsl))), (7, some (.own (.slice G la.length gc) 57 7 la.length (flatR la))), (20, some (.row bb16 69 #[.int .i64 1, .int .i64 200, .int .i64 1000, .int .i64 300, .int .i64 4000])), (21, some (.ro G3 (lz.map (Value.int .i64)))), (22, some (.ro G4 (flatR mm))), (24, some (.row bb20 27 #[.slice G la.length gc, .slice (some ⟨bb16, 0, none⟩) 1 1, .int .i64 fn_, .slice G3 lz.length g3, .slice G4 mm.length g4])), (25, some (.ro B1 (flatK [.u16, .u8, .u8, .u8, .u8] lsl_2))), (26, some (.row bb21 54 #[.int .u16 (rc lsl_2 k1 0), .int .u8 (rc lsl_2 k1 1), .int .u8 (rc lsl_2 k1 2), .int .u8 (rc lsl_2 k1 3), .int .u8 (rc lsl_2 k1 4)])), (27, (cond (S.getD 8 false) (some (.ro AA22 (pl.map (Value.int .i64)))) none)), (28, (cond (S.getD 8 false) (some (.ro AA23 (flatR pm))) none)), (29, (cond (S.getD 14 false) (some (.row bb24 27 #[.slice G la.length gc, .slice (some ⟨bb16, 0, none⟩) 1 1, .int .i64 (tt + rc lsl_2 k1 0), .slice AA22 pl.length cc22, .slice AA23 pm.length cc23])) (cond (S.getD 13 false) (some (.row bb24 27 #[.slice none 0 0, .slice none 0 0, .int .i64 0, .slice none 0 0, .slice none 0 0])) none)))] w) ?_ ?_ ?_
     ·exact ⟨none, 0, none, 0, 0, (((((((((((((((((((((((((Fr.nil hF).co hF (i := 68) (by kernel_rfl)).co hF (i := 67) (by kernel_rfl)).co hF (i := 66) (by kernel_rfl)).co hF (i := 65) (by kernel_rfl)).co hF (i := 64) (by kernel_rfl)).co hF (i := 63) (by kernel_rfl)).co hF (i := 62) (by kernel_rfl)).co hF (i := 61) (by kernel_rfl)).co hF (i := 60) (by kernel_rfl)).co hF (i := 59) (by kernel_rfl)).co hF (i := 58) (by kernel_rfl)).co hF (i := 57) (by kernel_rfl)).co hF (i := 56) (by kernel_rfl)).co hF (i := 47) (by kernel_rfl)).co hF (i := 46) (by kernel_rfl)).co hF (i := 45) (by kernel_rfl)).co hF (i := 16) (by kernel_rfl)).co hF (i := 15) (by kernel_rfl)).co hF (i := 14) (by kernel_rfl)).co hF (i := 13) (by kernel_rfl)).co hF (i := 11) (by kernel_rfl)).co hF (i := 9) (by kernel_rfl)).co hF (i := 7) (by kernel_rfl)).co hF (i := 2) (by kernel_rfl)), hM.drew.sub (((((((((((((((Sub.nil.co (k := 29) (by kernel_rfl)).co (k := 28) (by kernel_rfl)).co (k := 27) (by kernel_rfl)).co (k := 26) (by kernel_rfl)).co (k := 25) (by kernel_rfl)).co (k := 24) (by kernel_rfl)).co (k := 22) (by kernel_rfl)).co (k := 21) (by kernel_rfl)).co (k := 20) (by kernel_rfl)).co (k := 7) (by kernel_rfl)).co (k := 6) (by kernel_rfl)).co (k := 4) (by kernel_rfl)).co (k := 3) (by kernel_rfl)).co (k := 2) (by kernel_rfl)).co (k := 1) (by kernel_rfl))⟩
     ·refine stC ?_ (stC ?_ (stC ?_ (stC ?_ (stC ?_ (stC ?_ (stC ?_ (stC ?_ (stC ?_ (stC ?_ (stC ?_ (stC ?_ (stC ?_ (stC ?_ (stC ?_ (stC ?_ (stC ?_ (trivial)))))))))))))))))
      ·intro s0 s1 s2 s3 s4 s5 s6 s7 s8 s9 s10 s11 s12 s13 s14 s15 s16 hc hi hp a w hS
       obtain rfl : s0 = false := hi
       obtain ⟨AA22, cc22, AA23, cc23, bb24, hF, hM⟩ := hS
       refine eL 57 24 0 (v := .agg #[.slice G la.length gc, .slice (some ⟨bb16, 0, none⟩) 1 1, .int .i64 fn_, .slice G3 lz.length g3, .slice G4 mm.length g4]) hF hM (by kernel_rfl) rfl rfl (by kernel_rfl) (by kernel_rfl) fun a w hF hM => ?_
       exact ⟨AA22, cc22, AA23, cc23, bb24, ((hF.repl 12 (by kernel_rfl)).cast (by kernel_rfl)), (hM.cast (by kernel_rfl))⟩
      ·intro s0 s1 s2 s3 s4 s5 s6 s7 s8 s9 s10 s11 s12 s13 s14 s15 s16 hc hi hp a w hS
       obtain rfl : s1 = false := hi
       obtain ⟨AA22, cc22, AA23, cc23, bb24, hF, hM⟩ := hS
       refine eP 58 (v0 := .pointer (some ⟨bb21, 1, none⟩)) (v := .pointer (some ⟨bb21, 1, none⟩)) hF (by kernel_rfl) (fun _ => by kernel_rfl) rfl fun a hF => ?_
       exact ⟨AA22, cc22, AA23, cc23, bb24, ((hF.repl 13 (by kernel_rfl)).cast (by kernel_rfl)), (hM.cast (by kernel_rfl))⟩
      ·intro s0 s1 s2 s3 s4 s5 s6 s7 s8 s9 s10 s11 s12 s13 s14 s15 s16 hc hi hp a w hS
       obtain rfl : s2 = false := hi
       obtain rfl : s1 = true := hp 1 (by kernel_rfl)
       obtain ⟨AA22, cc22, AA23, cc23, bb24, hF, hM⟩ := hS
       refine eL 59 26 1 (v := .int .u8 (rc lsl_2 k1 1)) hF hM (by kernel_rfl) rfl rfl (by kernel_rfl) (by kernel_rfl) fun a w hF hM => ?_
       exact ⟨AA22, cc22, AA23, cc23, bb24, ((hF.repl 14 (by kernel_rfl)).cast (by kernel_rfl)), (hM.cast (by kernel_rfl))⟩
      ·intro s0 s1 s2 s3 s4 s5 s6 s7 s8 s9 s10 s11 s12 s13 s14 s15 s16 hc hi hp a w hS
       obtain rfl : s3 = false := hi
       obtain rfl : s2 = true := hp 2 (by kernel_rfl)
       obtain ⟨AA22, cc22, AA23, cc23, bb24, hF, hM⟩ := hS
       refine eM 60 (v := .int .u8 (rc lsl_2 k1 1 % 3)) hF hM (by kernel_rfl) (yld_rem (rc lsl_2 k1 1) 3 hF rfl (by kernel_rfl) (by kernel_rfl) (by kernel_rfl) (by decide) (Int.tmod_eq_emod_of_nonneg (by omega))) fun a w hF hM => ?_
       exact ⟨AA22, cc22, AA23, cc23, bb24, ((hF.repl 15 (by kernel_rfl)).cast (by kernel_rfl)), (hM.cast (by kernel_rfl))⟩
      ·intro s0 s1 s2 s3 s4 s5 s6 s7 s8 s9 s10 s11 s12 s13 s14 s15 s16 hc hi hp a w hS
       obtain rfl : s4 = false := hi
       obtain rfl : s3 = true := hp 3 (by kernel_rfl)
       obtain ⟨AA22, cc22, AA23, cc23, bb24, hF, hM⟩ := hS
       refine eP 61 (v0 := .int .i64 (IntKind.i64.wrap (rc lsl_2 k1 1 % 3))) (v := .int .i64 (rc lsl_2 k1 1 % 3)) hF (by kernel_rfl) (fun _ => by kernel_rfl) (vi (IntWalk.i64_in _ (by omega))) fun a hF => ?_
       exact ⟨AA22, cc22, AA23, cc23, bb24, ((hF.repl 16 (by kernel_rfl)).cast (by kernel_rfl)), (hM.cast (by kernel_rfl))⟩
      ·intro s0 s1 s2 s3 s4 s5 s6 s7 s8 s9 s10 s11 s12 s13 s14 s15 s16 hc hi hp a w hS
       obtain rfl : s5 = false := hi
       obtain ⟨AA22, cc22, AA23, cc23, bb24, hF, hM⟩ := hS
       refine eL 62 26 0 (v := .agg #[.int .u16 (rc lsl_2 k1 0), .int .u8 (rc lsl_2 k1 1), .int .u8 (rc lsl_2 k1 2), .int .u8 (rc lsl_2 k1 3), .int .u8 (rc lsl_2 k1 4)]) hF hM (by kernel_rfl) rfl rfl (by kernel_rfl) (by kernel_rfl) fun a w hF hM => ?_
       exact ⟨AA22, cc22, AA23, cc23, bb24, ((hF.repl 17 (by kernel_rfl)).cast (by kernel_rfl)), (hM.cast (by kernel_rfl))⟩
      ·intro s0 s1 s2 s3 s4 s5 s6 s7 s8 s9 s10 s11 s12 s13 s14 s15 s16 hc hi hp a w hS
       obtain rfl : s6 = false := hi
       obtain rfl : s5 = true := hp 5 (by kernel_rfl)
       obtain ⟨AA22, cc22, AA23, cc23, bb24, hF, hM⟩ := hS
       refine eM 63 (v := .agg #[.int .i64 it1, .int .i64 0, .int .i64 it3, .int .i64 it4, .int .i64 0]) hF hM (by kernel_rfl) (yld_call (f := 22) (args := #[.agg #[.int .u16 (rc lsl_2 k1 0), .int .u8 (rc lsl_2 k1 1), .int .u8 (rc lsl_2 k1 2), .int .u8 (rc lsl_2 k1 3), .int .u8 (rc lsl_2 k1 4)]]) hF (by kernel_rfl) (fun _ => by kernel_rfl) (fun w hM => by rw [e_it1, e_it3, e_it4]; exact item_w (rc lsl_2 k1 0) (rc lsl_2 k1 1) (rc lsl_2 k1 2) (rc lsl_2 k1 3) (rc lsl_2 k1 4) w (by omega))) fun a w hF hM => ?_
       exact ⟨AA22, cc22, AA23, cc23, bb24, ((hF.repl 18 (by kernel_rfl)).cast (by kernel_rfl)), (hM.cast (by kernel_rfl))⟩
      ·intro s0 s1 s2 s3 s4 s5 s6 s7 s8 s9 s10 s11 s12 s13 s14 s15 s16 hc hi hp a w hS
       obtain rfl : s7 = false := hi
       obtain ⟨AA22, cc22, AA23, cc23, bb24, hF, hM⟩ := hS
       refine eP 64 (v0 := .int .i64 (tt + rc lsl_2 k1 0)) (v := .int .i64 (tt + rc lsl_2 k1 0)) hF (by kernel_rfl) (fun _ => by kernel_rfl) rfl fun a hF => ?_
       exact ⟨AA22, cc22, AA23, cc23, bb24, ((hF.repl 19 (by kernel_rfl)).cast (by kernel_rfl)), (hM.cast (by kernel_rfl))⟩
      ·intro s0 s1 s2 s3 s4 s5 s6 s7 s8 s9 s10 s11 s12 s13 s14 s15 s16 hc hi hp a w hS
       obtain rfl : s8 = false := hi
       obtain rfl : s7 = true := hp 7 (by kernel_rfl)
       obtain rfl : s6 = true := hp 6 (by kernel_rfl)
       obtain rfl : s4 = true := hp 4 (by kernel_rfl)
       obtain rfl : s0 = true := hp 0 (by kernel_rfl)
       obtain rfl : s9 = false := hc.f 9 8 (by kernel_rfl) rfl
       obtain rfl : s10 = false := hc.f 10 9 (by kernel_rfl) rfl
       obtain rfl : s14 = false := hc.f 14 8 (by kernel_rfl) rfl
       obtain ⟨AA22, cc22, AA23, cc23, bb24, hF, hM⟩ := hS
       refine sRo2 27 28 (f := 17) (args := #[.agg #[.slice G la.length gc, .slice (some ⟨bb16, 0, none⟩) 1 1, .int .i64 fn_, .slice G3 lz.length g3, .slice G4 mm.length g4], .int .i64 (rc lsl_2 k1 1 % 3), .agg #[.int .i64 it1, .int .i64 0, .int .i64 it3, .int .i64 it4, .int .i64 0], .int .i64 (tt + rc lsl_2 k1 0)]) (mk := (fun x y => .tuple #[.agg #[.slice G la.length gc, .slice (some ⟨bb16, 0, none⟩) 1 1, .int .i64 (tt + rc lsl_2 k1 0), x, y], .int .i64 pv, .int .i64 0])) (A3 := G3) (A4 := G4) (n3 := pl.length) (n4 := pm.length) (xs := (pl.map (Value.int .i64))) (ys := (flatR pm)) hF hM (by kernel_rfl) rfl (by decide) (by kernel_rfl) (fun _ => by kernel_rfl) (fiPass_ok G la gc (some ⟨bb16, 0, none⟩) [[1, 200, 1000, 300, 4000]] 1 fn_ G3 lz g3 G4 mm g4 (rc lsl_2 k1 1 % 3) it1 0 it3 it4 0 (tt + rc lsl_2 k1 0) w (ro_of_own (hM.ok 7 _ rfl)) hWla (hM.roRow (k := 20) rfl) (show WR 5 ([[1, 200, 1000, 300, 4000]] : List (List Int)) from by unfold WR; simp) (hM.ok 21 _ rfl) (hM.ok 22 _ rfl) (show WR 3 mm from by assumption) hfl_fn_ ⟨(by omega), (by omega)⟩ hv_it1 ⟨(by omega), (by omega)⟩ epl lpl.1 lpl.2) (freeOr hM (k := 21) rfl (by simp only [List.length_map]; omega)) (freeOr hM (k := 22) rfl (by rw [flatR_length (show WR 3 mm from by assumption), flatR_length hpm]; omega)) fun AA22 cc22 AA23 cc23 a w hF hM => ?_
       exact ⟨AA22, cc22, AA23, cc23, bb24, ((hF.repl 20 (by kernel_rfl)).cast (by kernel_rfl)), (((hM.repl 14 (by kernel_rfl)).repl 12 (by kernel_rfl)).cast (by kernel_rfl))⟩
      ·intro s0 s1 s2 s3 s4 s5 s6 s7 s8 s9 s10 s11 s12 s13 s14 s15 s16 hc hi hp a w hS
       obtain rfl : s9 = false := hi
       obtain rfl : s8 = true := hp 8 (by kernel_rfl)
       obtain ⟨AA22, cc22, AA23, cc23, bb24, hF, hM⟩ := hS
       refine eP 56 (v0 := .tuple #[.agg #[.slice G la.length gc, .slice (some ⟨bb16, 0, none⟩) 1 1, .int .i64 (tt + rc lsl_2 k1 0), .slice AA22 pl.length cc22, .slice AA23 pm.length cc23], .int .i64 pv, .int .i64 0]) (v := .tuple #[.agg #[.slice G la.length gc, .slice (some ⟨bb16, 0, none⟩) 1 1, .int .i64 (tt + rc lsl_2 k1 0), .slice AA22 pl.length cc22, .slice AA23 pm.length cc23], .int .i64 pv, .int .i64 0]) hF (by kernel_rfl) (fun _ => by kernel_rfl) rfl fun a hF => ?_
       exact ⟨AA22, cc22, AA23, cc23, bb24, ((hF.repl 11 (by kernel_rfl)).cast (by kernel_rfl)), (hM.cast (by kernel_rfl))⟩
      ·intro s0 s1 s2 s3 s4 s5 s6 s7 s8 s9 s10 s11 s12 s13 s14 s15 s16 hc hi hp a w hS
       obtain rfl : s10 = false := hi
       obtain rfl : s9 = true := hp 9 (by kernel_rfl)
       obtain rfl : s8 = true := hc 9 8 (by kernel_rfl) rfl
       obtain ⟨AA22, cc22, AA23, cc23, bb24, hF, hM⟩ := hS
       refine eP 66 (v0 := .agg #[.slice G la.length gc, .slice (some ⟨bb16, 0, none⟩) 1 1, .int .i64 (tt + rc lsl_2 k1 0), .slice AA22 pl.length cc22, .slice AA23 pm.length cc23]) (v := .agg #[.slice G la.length gc, .slice (some ⟨bb16, 0, none⟩) 1 1, .int .i64 (tt + rc lsl_2 k1 0), .slice AA22 pl.length cc22, .slice AA23 pm.length cc23]) hF (by kernel_rfl) (fun _ => by kernel_rfl) rfl fun a hF => ?_
       exact ⟨AA22, cc22, AA23, cc23, bb24, ((hF.repl 21 (by kernel_rfl)).cast (by kernel_rfl)), (hM.cast (by kernel_rfl))⟩
      ·intro s0 s1 s2 s3 s4 s5 s6 s7 s8 s9 s10 s11 s12 s13 s14 s15 s16 hc hi hp a w hS
       obtain rfl : s11 = false := hi
       obtain rfl : s9 = true := hp 9 (by kernel_rfl)
       obtain rfl : s8 = true := hc 9 8 (by kernel_rfl) rfl
       obtain ⟨AA22, cc22, AA23, cc23, bb24, hF, hM⟩ := hS
       refine eP 67 (v0 := .int .i64 pv) (v := .int .i64 pv) hF (by kernel_rfl) (fun _ => by kernel_rfl) rfl fun a hF => ?_
       exact ⟨AA22, cc22, AA23, cc23, bb24, ((hF.repl 22 (by kernel_rfl)).cast (by kernel_rfl)), (hM.cast (by kernel_rfl))⟩
      ·intro s0 s1 s2 s3 s4 s5 s6 s7 s8 s9 s10 s11 s12 s13 s14 s15 s16 hc hi hp a w hS
       obtain rfl : s12 = false := hi
       obtain rfl : s9 = true := hp 9 (by kernel_rfl)
       obtain rfl : s8 = true := hc 9 8 (by kernel_rfl) rfl
       obtain ⟨AA22, cc22, AA23, cc23, bb24, hF, hM⟩ := hS
       refine eP 68 (v0 := .int .i64 0) (v := .int .i64 0) hF (by kernel_rfl) (fun _ => by kernel_rfl) rfl fun a hF => ?_
       exact ⟨AA22, cc22, AA23, cc23, bb24, ((hF.repl 23 (by kernel_rfl)).cast (by kernel_rfl)), (hM.cast (by kernel_rfl))⟩
      ·intro s0 s1 s2 s3 s4 s5 s6 s7 s8 s9 s10 s11 s12 s13 s14 s15 s16 hc hi hp a w hS
       obtain rfl : s13 = false := hi
       obtain rfl : s14 = false := hc.f 14 13 (by kernel_rfl) rfl
       obtain ⟨AA22, cc22, AA23, cc23, bb24, hF, hM⟩ := hS
       refine eN 14 29 (t := 27) (fun b => .pointer (some ⟨b, 0, none⟩)) #[.slice none 0 0, .slice none 0 0, .int .i64 0, .slice none 0 0, .slice none 0 0] hF hM (by kernel_rfl) (fun _ => by kernel_rfl) fun bb24 a w hF hM => ?_
       exact ⟨AA22, cc22, AA23, cc23, bb24, ((hF.repl 5 (by kernel_rfl)).cast (by kernel_rfl)), ((hM.repl 14 (by kernel_rfl)).cast (by kernel_rfl))⟩
      ·intro s0 s1 s2 s3 s4 s5 s6 s7 s8 s9 s10 s11 s12 s13 s14 s15 s16 hc hi hp a w hS
       obtain rfl : s14 = false := hi
       obtain rfl : s13 = true := hp 13 (by kernel_rfl)
       obtain rfl : s10 = true := hp 10 (by kernel_rfl)
       obtain rfl : s8 = true := hp 8 (by kernel_rfl)
       obtain ⟨AA22, cc22, AA23, cc23, bb24, hF, hM⟩ := hS
       refine sStore (i := 29) (off := 0) (cs' := #[.slice G la.length gc, .slice (some ⟨bb16, 0, none⟩) 1 1, .int .i64 (tt + rc lsl_2 k1 0), .slice AA22 pl.length cc22, .slice AA23 pm.length cc23]) hF hM (by kernel_rfl) rfl rfl (by kernel_rfl) (by kernel_rfl) rfl (by kernel_rfl) fun w hM => ?_
       exact ⟨AA22, cc22, AA23, cc23, bb24, (hF.cast (by kernel_rfl)), ((hM.repl 14 (by kernel_rfl)).cast (by kernel_rfl))⟩
      ·intro s0 s1 s2 s3 s4 s5 s6 s7 s8 s9 s10 s11 s12 s13 s14 s15 s16 hc hi hp a w hS
       obtain rfl : s15 = false := hi
       obtain rfl : s11 = true := hp 11 (by kernel_rfl)
       obtain ⟨AA22, cc22, AA23, cc23, bb24, hF, hM⟩ := hS
       refine eP 15 (v0 := .int .i64 pv) (v := .int .i64 pv) hF (by kernel_rfl) (fun _ => by kernel_rfl) rfl fun a hF => ?_
       exact ⟨AA22, cc22, AA23, cc23, bb24, ((hF.repl 6 (by kernel_rfl)).cast (by kernel_rfl)), (hM.cast (by kernel_rfl))⟩
      ·intro s0 s1 s2 s3 s4 s5 s6 s7 s8 s9 s10 s11 s12 s13 s14 s15 s16 hc hi hp a w hS
       obtain rfl : s16 = false := hi
       obtain rfl : s12 = true := hp 12 (by kernel_rfl)
       obtain ⟨AA22, cc22, AA23, cc23, bb24, hF, hM⟩ := hS
       refine eP 16 (v0 := .int .i64 0) (v := .int .i64 0) hF (by kernel_rfl) (fun _ => by kernel_rfl) rfl fun a hF => ?_
       exact ⟨AA22, cc22, AA23, cc23, bb24, ((hF.repl 7 (by kernel_rfl)).cast (by kernel_rfl)), (hM.cast (by kernel_rfl))⟩
     ·intro a w hS
      obtain ⟨AA22, cc22, AA23, cc23, bb24, hF, hM⟩ := hS
      replace hF : Fr 175 [(2, some (.slice B2 f2.length c2)), (7, some (.pointer (some ⟨bb1, 0, none⟩))), (9, some (.pointer (some ⟨bb20, 0, none⟩))), (11, some (.int .i64 (tt + rc lsl_2 k1 0))), (13, some (.pointer (some ⟨bb21, 0, none⟩))), (14, some (.pointer (some ⟨bb24, 0, none⟩))), (15, some (.int .i64 pv)), (16, some (.int .i64 0)), (45, some (.slice B1 lsl_2.length c1)), (46, some (.int .i64 (lsl_2.length : Int))), (47, some (.int .i64 (k1 : Int))), (56, some (.tuple #[.agg #[.slice G la.length gc, .slice (some ⟨bb16, 0, none⟩) 1 1, .int .i64 (tt + rc lsl_2 k1 0), .slice AA22 pl.length cc22, .slice AA23 pm.length cc23], .int .i64 pv, .int .i64 0])), (57, some (.agg #[.slice G la.length gc, .slice (some ⟨bb16, 0, none⟩) 1 1, .int .i64 fn_, .slice G3 lz.length g3, .slice G4 mm.length g4])), (58, some (.pointer (some ⟨bb21, 1, none⟩))), (59, some (.int .u8 (rc lsl_2 k1 1))), (60, some (.int .u8 (rc lsl_2 k1 1 % 3))), (61, some (.int .i64 (rc lsl_2 k1 1 % 3))), (62, some (.agg #[.int .u16 (rc lsl_2 k1 0), .int .u8 (rc lsl_2 k1 1), .int .u8 (rc lsl_2 k1 2), .int .u8 (rc lsl_2 k1 3), .int .u8 (rc lsl_2 k1 4)])), (63, some (.agg #[.int .i64 it1, .int .i64 0, .int .i64 it3, .int .i64 it4, .int .i64 0])), (64, some (.int .i64 (tt + rc lsl_2 k1 0))), (65, some (.tuple #[.agg #[.slice G la.length gc, .slice (some ⟨bb16, 0, none⟩) 1 1, .int .i64 (tt + rc lsl_2 k1 0), .slice AA22 pl.length cc22, .slice AA23 pm.length cc23], .int .i64 pv, .int .i64 0])), (66, some (.agg #[.slice G la.length gc, .slice (some ⟨bb16, 0, none⟩) 1 1, .int .i64 (tt + rc lsl_2 k1 0), .slice AA22 pl.length cc22, .slice AA23 pm.length cc23])), (67, some (.int .i64 pv)), (68, some (.int .i64 0))] a := hF.cast (by kernel_rfl)
      replace hM : Mem w0.heap.size w0 [(1, some (.ro A (flatR l))), (2, some (.ro B1 (flatK [.u16, .u8, .u8, .u8, .u8] f1))), (3, some (.ro B2 (flatK [.u16, .u8, .u8, .u8, .u8] f2))), (4, some (.row bb1 54 #[.int .u16 y0, .int .u8 y1, .int .u8 y2, .int .u8 y3, .int .u8 y4])), (6, some (.ro A (flatR lsl))), (7, some (.own (.slice G la.length gc) 57 7 la.length (flatR la))), (20, some (.row bb16 69 #[.int .i64 1, .int .i64 200, .int .i64 1000, .int .i64 300, .int .i64 4000])), (21, some (.ro G3 (lz.map (Value.int .i64)))), (22, some (.ro G4 (flatR mm))), (24, some (.row bb20 27 #[.slice G la.length gc, .slice (some ⟨bb16, 0, none⟩) 1 1, .int .i64 fn_, .slice G3 lz.length g3, .slice G4 mm.length g4])), (25, some (.ro B1 (flatK [.u16, .u8, .u8, .u8, .u8] lsl_2))), (26, some (.row bb21 54 #[.int .u16 (rc lsl_2 k1 0), .int .u8 (rc lsl_2 k1 1), .int .u8 (rc lsl_2 k1 2), .int .u8 (rc lsl_2 k1 3), .int .u8 (rc lsl_2 k1 4)])), (27, some (.ro AA22 (pl.map (Value.int .i64)))), (28, some (.ro AA23 (flatR pm))), (29, some (.row bb24 27 #[.slice G la.length gc, .slice (some ⟨bb16, 0, none⟩) 1 1, .int .i64 (tt + rc lsl_2 k1 0), .slice AA22 pl.length cc22, .slice AA23 pm.length cc23]))] w := hM.cast (by kernel_rfl)
      refine hK33 _ _ ?_
      refine wp_seq_k fun K34 hK34 => ?_
      refine wp_region_lit ?_
      refine wl (eL 69 29 0 (v := .agg #[.slice G la.length gc, .slice (some ⟨bb16, 0, none⟩) 1 1, .int .i64 (tt + rc lsl_2 k1 0), .slice AA22 pl.length cc22, .slice AA23 pm.length cc23]) hF hM (by kernel_rfl) rfl rfl (by kernel_rfl) (by kernel_rfl) fun a w hF hM => ?_)
      refine wl (sStore (i := 24) (off := 0) (cs' := #[.slice G la.length gc, .slice (some ⟨bb16, 0, none⟩) 1 1, .int .i64 (tt + rc lsl_2 k1 0), .slice AA22 pl.length cc22, .slice AA23 pm.length cc23]) hF hM (by kernel_rfl) rfl rfl (by kernel_rfl) (by kernel_rfl) rfl (by kernel_rfl) fun w hM => ?_)
      refine wpList_nil ?_
      refine hK34 _ _ ?_
      refine wp_seq_k fun K35 hK35 => ?_
      refine wp_region_lit ?_
      refine sB 1 [(70, .int .i64 0)] hF (by kernel_rfl) fun a hF => ?_
      refine wl (eP 71 (v0 := .bool (!decide (0 = 0))) (v := .bool false) hF (by kernel_rfl) (fun _ => by kernel_rfl) (nT (by omega)) fun a hF => ?_)
      refine wpList_nil ?_
      refine hK35 _ _ ?_
      refine cF hF (by kernel_rfl) (by kernel_rfl) ?_
      refine wp_skip ?_
      refine hK30 _ _ ?_
      refine wp_region_lit ?_
      refine wl (eP 72 (v0 := .int .i64 (IntKind.i64.wrap ((k1 : Int) + 1))) (v := .int .i64 ((k1 : Int) + 1)) hF (by kernel_rfl) (fun _ => by kernel_rfl) (wi (by omega)) fun a hF => ?_)
      refine sB 1 [(47, .int .i64 ((k1 : Int) + 1))] hF (by kernel_rfl) fun a hF => ?_
      refine wpList_nil ?_
      replace hM := hM.move 21 27 rfl (by decide)
      replace hM := hM.move 22 28 rfl (by decide)
      refine hK27 _ _ ⟨(k1 + 1, tt + rc lsl_2 k1 0, pl, pm, AA22, cc22, AA23, cc23, tt + rc lsl_2 k1 0), ⟨((((((((Fr.nil hF).c hF (i := 46) rfl rfl).c hF (i := 45) rfl rfl).c hF (i := 9) rfl rfl).c hF (i := 7) rfl rfl).c hF (i := 2) rfl rfl).c hF (i := 47) rfl (vi (show ((k1 : Int) + 1 : Int) = ((k1 + 1) : Int) from by omega))).c hF (i := 11) rfl rfl), (hM.sub (((((((((((Sub.nil.c (k := 25) rfl rfl).c (k := 24) rfl rfl).c (k := 22) rfl rfl).c (k := 21) rfl rfl).c (k := 20) rfl rfl).c (k := 7) rfl rfl).c (k := 6) rfl rfl).c (k := 4) rfl rfl).c (k := 3) rfl rfl).c (k := 2) rfl rfl).c (k := 1) rfl rfl)), (show ((k1 + 1) : Int) ≤ (lsl_2.length : Int) from by omega), (show -1000 ≤ (tt + rc lsl_2 k1 0) from by omega), (show flE la [[1, 200, 1000, 300, 4000]] (tt + rc lsl_2 k1 0) pl pm = 0 from by exact fpl), (show WR 3 pm from by exact hpm), (show (pl.length : Int) = (la.length : Int) from by omega), (show (pm.length : Int) = 1 from by omega), (show 0 ≤ (tt + rc lsl_2 k1 0) ∧ (tt + rc lsl_2 k1 0) ≤ 65535 * ((k1 + 1) : Int) from by omega), (show (tt + rc lsl_2 k1 0) ≤ (tt + rc lsl_2 k1 0) from by omega)⟩, (show lsl_2.length - (k1 + 1) < lsl_2.length - k1 from by omega)⟩
    ·skip
     replace hF := hF.c hF (i := 48) (v := .bool false) rfl (bF hz16)
     refine cF hF (by kernel_rfl) (by kernel_rfl) ?_
     refine wp_exit ?_
     refine hK25 _ _ ?_
     refine wp_seq_k fun K36 hK36 => ?_
     refine wp_region_lit ?_
     refine wl (eL 73 4 0 (v := .agg #[.int .u16 y0, .int .u8 y1, .int .u8 y2, .int .u8 y3, .int .u8 y4]) hF hM (by kernel_rfl) rfl rfl (by kernel_rfl) (by kernel_rfl) fun a w hF hM => ?_)
     obtain ⟨it1, e_it1⟩ : ∃ x : Int, x = y2 % 4 := ⟨_, rfl⟩
     obtain ⟨it3, e_it3⟩ : ∃ x : Int, x = y3 % 8 := ⟨_, rfl⟩
     obtain ⟨it4, e_it4⟩ : ∃ x : Int, x = 84 + y4 % 4 := ⟨_, rfl⟩
     have hv_it1 : viB it1 0 it3 it4 0 = true := decide_eq_true (by unfold viP; omega)
     refine wl (eM 74 (v := .agg #[.int .i64 it1, .int .i64 0, .int .i64 it3, .int .i64 it4, .int .i64 0]) hF hM (by kernel_rfl) (yld_call (f := 22) (args := #[.agg #[.int .u16 y0, .int .u8 y1, .int .u8 y2, .int .u8 y3, .int .u8 y4]]) hF (by kernel_rfl) (fun _ => by kernel_rfl) (fun w hM => by rw [e_it1, e_it3, e_it4]; exact item_w y0 y1 y2 y3 y4 w (by omega))) fun a w hF hM => ?_)
     refine wl (eN 17 30 (t := 39) (fun b => .pointer (some ⟨b, 0, none⟩)) #[.int .i64 0, .int .i64 0, .int .i64 0, .int .i64 0, .int .i64 0] hF hM (by kernel_rfl) (fun _ => by kernel_rfl) fun bb25 a w hF hM => ?_)
     refine wl (sStore (i := 30) (off := 0) (cs' := #[.int .i64 it1, .int .i64 0, .int .i64 it3, .int .i64 it4, .int .i64 0]) hF hM (by kernel_rfl) rfl rfl (by kernel_rfl) (by kernel_rfl) rfl (by kernel_rfl) fun w hM => ?_)
     refine wpList_nil ?_
     refine hK36 _ _ ?_
     refine wp_seq_k fun K37 hK37 => ?_
     refine wp_region_lit ?_
     refine sB 1 [(75, .pointer (some ⟨bb1, 1, none⟩))] hF (by kernel_rfl) fun a hF => ?_
     refine wl (eL 76 4 1 (v := .int .u8 y1) hF hM (by kernel_rfl) rfl rfl (by kernel_rfl) (by kernel_rfl) fun a w hF hM => ?_)
     refine wl (eM 77 (v := .int .u8 (y1 % 3)) hF hM (by kernel_rfl) (yld_rem y1 3 hF rfl (by kernel_rfl) (by kernel_rfl) (by kernel_rfl) (by decide) (Int.tmod_eq_emod_of_nonneg (by omega))) fun a w hF hM => ?_)
     refine wl (eP 78 (v0 := .int .i64 (IntKind.i64.wrap (y1 % 3))) (v := .int .i64 (y1 % 3)) hF (by kernel_rfl) (fun _ => by kernel_rfl) (vi (IntWalk.i64_in _ (by omega))) fun a hF => ?_)
     refine sB 1 [(18, .int .i64 (y1 % 3))] hF (by kernel_rfl) fun a hF => ?_
     refine wpList_nil ?_
     refine hK37 _ _ ?_
     refine wp_seq_k fun K38 hK38 => ?_
     obtain ⟨i3m, hi3m⟩ : ∃ z : Int, max it3 6 = z := ⟨_, rfl⟩
     have hvL : viB it1 0 i3m it4 0 = true := decide_eq_true (by unfold viP; omega)
     refine wp_region_lit ?_
     refine sB 1 [(79, .pointer (some ⟨bb25, 2, none⟩))] hF (by kernel_rfl) fun a hF => ?_
     refine wl (eL 80 30 2 (v := .int .i64 it3) hF hM (by kernel_rfl) rfl rfl (by kernel_rfl) (by kernel_rfl) fun a w hF hM => ?_)
     refine wl (eP 81 (v0 := .int .i64 (if 6 > it3 then 6 else it3)) (v := .int .i64 i3m) hF (by kernel_rfl) (fun _ => by kernel_rfl) (vi ((max_if _ _).trans hi3m)) fun a hF => ?_)
     refine sB 1 [(82, .pointer (some ⟨bb25, 2, none⟩))] hF (by kernel_rfl) fun a hF => ?_
     refine wl (sStore (i := 30) (off := 2) (cs' := #[.int .i64 it1, .int .i64 0, .int .i64 i3m, .int .i64 it4, .int .i64 0]) hF hM (by kernel_rfl) rfl rfl (by kernel_rfl) (by kernel_rfl) rfl (by kernel_rfl) fun w hM => ?_)
     refine wpList_nil ?_
     refine hK38 _ _ ?_
     refine wp_seq_k fun K39 hK39 => ?_
     refine wp_region_lit ?_
     refine sB 1 [(83, .int .i64 tt)] hF (by kernel_rfl) fun a hF => ?_
     refine wl (eP 84 (v0 := .int .i64 (IntKind.i64.wrap (tt + 655350))) (v := .int .i64 (tt + 655350)) hF (by kernel_rfl) (fun _ => by kernel_rfl) (wi (by omega)) fun a hF => ?_)
     refine sB 1 [(85, .pointer (some ⟨bb1, 0, none⟩))] hF (by kernel_rfl) fun a hF => ?_
     refine wl (eL 86 4 0 (v := .int .u16 y0) hF hM (by kernel_rfl) rfl rfl (by kernel_rfl) (by kernel_rfl) fun a w hF hM => ?_)
     refine wl (eP 87 (v0 := .int .i64 (IntKind.i64.wrap y0)) (v := .int .i64 y0) hF (by kernel_rfl) (fun _ => by kernel_rfl) (vi (IntWalk.i64_in _ (by omega))) fun a hF => ?_)
     refine wl (eP 88 (v0 := .int .i64 (IntKind.i64.wrap (tt + 655350 + y0))) (v := .int .i64 (tt + 655350 + y0)) hF (by kernel_rfl) (fun _ => by kernel_rfl) (wi (by omega)) fun a hF => ?_)
     refine sB 1 [(19, .int .i64 (tt + 655350 + y0))] hF (by kernel_rfl) fun a hF => ?_
     refine wpList_nil ?_
     refine hK39 _ _ ?_
     refine wp_seq_k fun K40 hK40 => ?_
     refine wp_region_lit ?_
     refine wl (eL 90 24 0 (v := .agg #[.slice G la.length gc, .slice (some ⟨bb16, 0, none⟩) 1 1, .int .i64 fn_, .slice G3 lz.length g3, .slice G4 mm.length g4]) hF hM (by kernel_rfl) rfl rfl (by kernel_rfl) (by kernel_rfl) fun a w hF hM => ?_)
     refine sB 1 [(91, .int .i64 (y1 % 3))] hF (by kernel_rfl) fun a hF => ?_
     refine wl (eL 92 30 0 (v := .agg #[.int .i64 it1, .int .i64 0, .int .i64 i3m, .int .i64 it4, .int .i64 0]) hF hM (by kernel_rfl) rfl rfl (by kernel_rfl) (by kernel_rfl) fun a w hF hM => ?_)
     refine sB 1 [(93, .int .i64 (tt + 655350 + y0))] hF (by kernel_rfl) fun a hF => ?_
     obtain ⟨pl, pm, pv, epl⟩ : ∃ x y z, psR la [[1, 200, 1000, 300, 4000]] lz mm (y1 % 3) it1 i3m it4 (tt + 655350 + y0) = (x, y, z) := ⟨_, _, _, rfl⟩
     have lpl := psR_len epl
     have hpm := psR_wr epl (show WR 3 mm from by assumption)
     have fpl := psR_ok (i2 := 0) (i5 := 0) hfl_fn_ hvL ⟨(by omega), (by omega)⟩ epl
     refine wl (sRo2 31 32 (f := 17) (args := #[.agg #[.slice G la.length gc, .slice (some ⟨bb16, 0, none⟩) 1 1, .int .i64 fn_, .slice G3 lz.length g3, .slice G4 mm.length g4], .int .i64 (y1 % 3), .agg #[.int .i64 it1, .int .i64 0, .int .i64 i3m, .int .i64 it4, .int .i64 0], .int .i64 (tt + 655350 + y0)]) (mk := (fun x y => .tuple #[.agg #[.slice G la.length gc, .slice (some ⟨bb16, 0, none⟩) 1 1, .int .i64 (tt + 655350 + y0), x, y], .int .i64 pv, .int .i64 0])) (A3 := G3) (A4 := G4) (n3 := pl.length) (n4 := pm.length) (xs := (pl.map (Value.int .i64))) (ys := (flatR pm)) hF hM (by kernel_rfl) rfl (by decide) (by kernel_rfl) (fun _ => by kernel_rfl) (fiPass_ok G la gc (some ⟨bb16, 0, none⟩) [[1, 200, 1000, 300, 4000]] 1 fn_ G3 lz g3 G4 mm g4 (y1 % 3) it1 0 i3m it4 0 (tt + 655350 + y0) w (ro_of_own (hM.ok 7 _ rfl)) hWla (hM.roRow (k := 20) rfl) (show WR 5 ([[1, 200, 1000, 300, 4000]] : List (List Int)) from by unfold WR; simp) (hM.ok 21 _ rfl) (hM.ok 22 _ rfl) (show WR 3 mm from by assumption) hfl_fn_ ⟨(by omega), (by omega)⟩ hvL ⟨(by omega), (by omega)⟩ epl lpl.1 lpl.2) (freeOr hM (k := 21) rfl (by simp only [List.length_map]; omega)) (freeOr hM (k := 22) rfl (by rw [flatR_length (show WR 3 mm from by assumption), flatR_length hpm]; omega)) fun AA26 cc26 AA27 cc27 a w hF hM => ?_)
     refine sB 4 [(89, .tuple #[.agg #[.slice G la.length gc, .slice (some ⟨bb16, 0, none⟩) 1 1, .int .i64 (tt + 655350 + y0), .slice AA26 pl.length cc26, .slice AA27 pm.length cc27], .int .i64 pv, .int .i64 0]), (95, .agg #[.slice G la.length gc, .slice (some ⟨bb16, 0, none⟩) 1 1, .int .i64 (tt + 655350 + y0), .slice AA26 pl.length cc26, .slice AA27 pm.length cc27]), (96, .int .i64 pv), (97, .int .i64 0)] hF (by kernel_rfl) fun a hF => ?_
     refine wl (eN 20 33 (t := 27) (fun b => .pointer (some ⟨b, 0, none⟩)) #[.slice none 0 0, .slice none 0 0, .int .i64 0, .slice none 0 0, .slice none 0 0] hF hM (by kernel_rfl) (fun _ => by kernel_rfl) fun bb28 a w hF hM => ?_)
     refine wl (sStore (i := 33) (off := 0) (cs' := #[.slice G la.length gc, .slice (some ⟨bb16, 0, none⟩) 1 1, .int .i64 (tt + 655350 + y0), .slice AA26 pl.length cc26, .slice AA27 pm.length cc27]) hF hM (by kernel_rfl) rfl rfl (by kernel_rfl) (by kernel_rfl) rfl (by kernel_rfl) fun w hM => ?_)
     refine sB 2 [(21, .int .i64 pv), (22, .int .i64 0)] hF (by kernel_rfl) fun a hF => ?_
     refine wpList_nil ?_
     refine hK40 _ _ ?_
     refine wp_seq_k fun K41 hK41 => ?_
     refine wp_seq_k fun K42 hK42 => ?_
     obtain ⟨lsl_3, e_lsl_3⟩ : ∃ x : List (List Int), x = f2.take ((min (f2.length : Int) 10).toNat) := ⟨_, rfl⟩
     have len_lsl_3 : (lsl_3.length : Int) = min (f2.length : Int) 10 := by rw [e_lsl_3, List.length_take]; omega
     have hW_lsl_3 : WR 5 lsl_3 := e_lsl_3 ▸ WR.take hV2
     replace hM := hM.roMore 34 3 (xs' := (flatK [.u16, .u8, .u8, .u8, .u8] lsl_3)) rfl (by rw [e_lsl_3]; exact flatK_sub _)
     have hb_lsl_3 : FrB lsl_3 := by rw [e_lsl_3]; exact hb2.take
     refine wp_region_lit ?_
     refine sB 3 [(98, .slice B2 f2.length c2), (99, .slice B2 f2.length c2), (100, .int .i64 (f2.length : Int))] hF (by kernel_rfl) fun a hF => ?_
     refine wl (eP 101 (v0 := .int .i64 (if 10 < (f2.length : Int) then 10 else (f2.length : Int))) (v := .int .i64 (min (f2.length : Int) 10)) hF (by kernel_rfl) (fun _ => by kernel_rfl) (vi (min_if _ _)) fun a hF => ?_)
     refine wl (eM 102 (v := .slice B2 lsl_3.length c2) hF hM (by kernel_rfl) (yld_slice0 (e := 54) (len := f2.length) (cap := c2) (m := lsl_3.length) (A := B2) (i := min (f2.length : Int) 10) hF rfl (by kernel_rfl) (by kernel_rfl) (by kernel_rfl) (by kernel_rfl) (by kernel_rfl) (by omega) (by omega)) fun a w hF hM => ?_)
     refine sB 2 [(103, .int .i64 (lsl_3.length : Int)), (104, .int .i64 0)] hF (by kernel_rfl) fun a hF => ?_
     refine wpList_nil ?_
     refine hK42 _ _ ?_
     refine wp_block ?_
     refine wp_loop_k (G := Nat × Int × List Int × List (List Int) × Option Addr × Nat × Option Addr × Nat × Int) (fun gg a w => Fr 175 [(11, some (.int .i64 gg.2.2.2.2.2.2.2.2)), (104, some (.int .i64 (gg.1 : Int))), (9, some (.pointer (some ⟨bb20, 0, none⟩))), (17, some (.pointer (some ⟨bb25, 0, none⟩))), (18, some (.int .i64 (y1 % 3))), (19, some (.int .i64 (tt + 655350 + y0))), (21, some (.int .i64 pv)), (22, some (.int .i64 0)), (102, some (.slice B2 lsl_3.length c2)), (103, some (.int .i64 (lsl_3.length : Int)))] a ∧ Mem w0.heap.size w0 [(1, some (.ro A (flatR l))), (2, some (.ro B1 (flatK [.u16, .u8, .u8, .u8, .u8] f1))), (3, some (.ro B2 (flatK [.u16, .u8, .u8, .u8, .u8] f2))), (6, some (.ro A (flatR lsl))), (7, some (.own (.slice G la.length gc) 57 7 la.length (flatR la))), (20, some (.row bb16 69 #[.int .i64 1, .int .i64 200, .int .i64 1000, .int .i64 300, .int .i64 4000])), (21, some (.ro gg.2.2.2.2.1 (gg.2.2.1.map (Value.int .i64)))), (22, some (.ro gg.2.2.2.2.2.2.1 (flatR gg.2.2.2.1))), (24, some (.row bb20 27 #[.slice G la.length gc, .slice (some ⟨bb16, 0, none⟩) 1 1, .int .i64 gg.2.1, .slice gg.2.2.2.2.1 gg.2.2.1.length gg.2.2.2.2.2.1, .slice gg.2.2.2.2.2.2.1 gg.2.2.2.1.length gg.2.2.2.2.2.2.2.1])), (25, some (.ro B1 (flatK [.u16, .u8, .u8, .u8, .u8] lsl_2))), (30, some (.row bb25 39 #[.int .i64 it1, .int .i64 0, .int .i64 i3m, .int .i64 it4, .int .i64 0])), (31, some (.ro AA26 (pl.map (Value.int .i64)))), (32, some (.ro AA27 (flatR pm))), (34, some (.ro B2 (flatK [.u16, .u8, .u8, .u8, .u8] lsl_3)))] w ∧ ((gg.1 : Int) ≤ (lsl_3.length : Int)) ∧ (-1000 ≤ gg.2.1) ∧ (flE la [[1, 200, 1000, 300, 4000]] gg.2.1 gg.2.2.1 gg.2.2.2.1 = 0) ∧ (WR 3 gg.2.2.2.1) ∧ ((gg.2.2.1.length : Int) = (la.length : Int)) ∧ ((gg.2.2.2.1.length : Int) = 1) ∧ (0 ≤ gg.2.2.2.2.2.2.2.2 ∧ gg.2.2.2.2.2.2.2.2 ≤ tt + 65535 * (gg.1 : Int)) ∧ (gg.2.1 ≤ gg.2.2.2.2.2.2.2.2) ∧ (AInv la lz gg.2.2.1 (y1 % 3) it1 i3m)) (fun gg => lsl_3.length - gg.1) (0, fn_, lz, mm, G3, g3, G4, g4, tt) ?_ ?_
     ·refine ⟨(((((((((((Fr.nil hF).c hF (i := 103) rfl rfl).c hF (i := 102) rfl rfl).c hF (i := 22) rfl rfl).c hF (i := 21) rfl rfl).c hF (i := 19) rfl rfl).c hF (i := 18) rfl rfl).c hF (i := 17) rfl rfl).c hF (i := 9) rfl rfl).c hF (i := 104) rfl (vi (show (0 : Int) = (0 : Int) from by omega))).c hF (i := 11) rfl rfl), (hM.sub ((((((((((((((Sub.nil.c (k := 34) rfl rfl).c (k := 32) rfl rfl).c (k := 31) rfl rfl).c (k := 30) rfl rfl).c (k := 25) rfl rfl).c (k := 24) rfl rfl).c (k := 22) rfl rfl).c (k := 21) rfl rfl).c (k := 20) rfl rfl).c (k := 7) rfl rfl).c (k := 6) rfl rfl).c (k := 3) rfl rfl).c (k := 2) rfl rfl).c (k := 1) rfl rfl)), (show (0 : Int) ≤ (lsl_3.length : Int) from by omega), (show -1000 ≤ fn_ from by omega), (show flE la [[1, 200, 1000, 300, 4000]] fn_ lz mm = 0 from by exact hfl_fn_), (show WR 3 mm from by exact (show WR 3 mm from by assumption)), (show (lz.length : Int) = (la.length : Int) from by omega), (show (mm.length : Int) = 1 from by first | omega | (have := fl_len (fl_p hfl_fn_); simp at this; omega)), (show 0 ≤ tt ∧ tt ≤ tt + 65535 * (0 : Int) from by omega), (show fn_ ≤ tt from by omega), (show AInv la lz lz (y1 % 3) it1 i3m from by exact fun _ _ _ => rfl)⟩
     ·intro gg a w hI
      intro K43 hK43
      obtain ⟨k2, fn2, l2, m2, H3, h3_, H4, h4_, t2⟩ := gg
      try dsimp only at hI hK43
      obtain ⟨hF, hM, hz17, hz18, hz19, hz20, hz21, hz22, hz23, hz24, hz25⟩ := hI
      have hfl_fn2 : flE la [[1, 200, 1000, 300, 4000]] fn2 l2 m2 = 0 := by assumption
      refine wp_seq_k fun K44 hK44 => ?_
      refine wp_region_lit ?_
      refine sB 1 [(105, .bool (decide ((k2 : Int) < (lsl_3.length : Int))))] hF (by kernel_rfl) fun a hF => ?_
      refine wpList_nil ?_
      refine hK44 _ _ ?_
      refine wp_seq_k fun K45 hK45 => ?_
      by_cases hz26 : (k2 : Int) < (lsl_3.length : Int)
      ·skip
       replace hF := hF.c hF (i := 105) (v := .bool true) rfl (bT hz26)
       refine cT hF (by kernel_rfl) (by kernel_rfl) ?_
       refine wp_skip ?_
       refine hK45 _ _ ?_
       refine wp_seq_k fun K46 hK46 => ?_
       refine wp_block ?_
       refine wp_seq_k fun K47 hK47 => ?_
       refine wp_region_lit ?_
       refine wl (eM 106 (v := .pointer (some (ea B2 (k2 * 5)))) hF hM (by kernel_rfl) (yld_ix (kd := .i64) (e := 54) (len := lsl_3.length) (cap := c2) (i := (k2 : Int)) (size := 5) (A := B2) hF rfl (by kernel_rfl) (by kernel_rfl) (by kernel_rfl) (by kernel_rfl) (by kernel_rfl) (roK 34 rfl) (by omega) (by omega) (by rw [flatK_length (ks := [.u16, .u8, .u8, .u8, .u8]) hW_lsl_3]; simp only [List.length_map, List.length_append, List.length_replicate, List.length_set, List.length_cons, List.length_nil, flat2_length, List.length_take]; omega)) fun a w hF hM => ?_)
       refine wl (eM 107 (v := .agg #[.int .u16 (rc lsl_3 k2 0), .int .u8 (rc lsl_3 k2 1), .int .u8 (rc lsl_3 k2 2), .int .u8 (rc lsl_3 k2 3), .int .u8 (rc lsl_3 k2 4)]) hF hM (by kernel_rfl) (yld_roM (A := B2) (j := k2 * 5) (us := [.int .u16 (rc lsl_3 k2 0), .int .u8 (rc lsl_3 k2 1), .int .u8 (rc lsl_3 k2 2), .int .u8 (rc lsl_3 k2 3), .int .u8 (rc lsl_3 k2 4)]) hF rfl (by kernel_rfl) (by kernel_rfl) (roK 34 rfl) (by kernel_rfl) rfl (rcK_sub (ks := [.u16, .u8, .u8, .u8, .u8]) (k := k2) (f := 0) hW_lsl_3 (by omega) rfl)) fun a w hF hM => ?_)
       have := fr_bd hb_lsl_3 (k := k2) (by omega)
       refine wl (eN 24 35 (t := 54) (fun b => .pointer (some ⟨b, 0, none⟩)) #[.int .u16 0, .int .u8 0, .int .u8 0, .int .u8 0, .int .u8 0] hF hM (by kernel_rfl) (fun _ => by kernel_rfl) fun bb29 a w hF hM => ?_)
       refine wl (sStore (i := 35) (off := 0) (cs' := #[.int .u16 (rc lsl_3 k2 0), .int .u8 (rc lsl_3 k2 1), .int .u8 (rc lsl_3 k2 2), .int .u8 (rc lsl_3 k2 3), .int .u8 (rc lsl_3 k2 4)]) hF hM (by kernel_rfl) rfl rfl (by kernel_rfl) (by kernel_rfl) rfl (by kernel_rfl) fun w hM => ?_)
       refine wpList_nil ?_
       refine hK47 _ _ ?_
       refine wp_seq_k fun K48 hK48 => ?_
       refine wp_region_lit ?_
       refine sB 2 [(108, .int .i64 t2), (109, .pointer (some ⟨bb29, 0, none⟩))] hF (by kernel_rfl) fun a hF => ?_
       refine wl (eL 110 35 0 (v := .int .u16 (rc lsl_3 k2 0)) hF hM (by kernel_rfl) rfl rfl (by kernel_rfl) (by kernel_rfl) fun a w hF hM => ?_)
       refine wl (eP 111 (v0 := .int .i64 (IntKind.i64.wrap (rc lsl_3 k2 0))) (v := .int .i64 (rc lsl_3 k2 0)) hF (by kernel_rfl) (fun _ => by kernel_rfl) (vi (IntWalk.i64_in _ (by omega))) fun a hF => ?_)
       refine wl (eP 112 (v0 := .int .i64 (IntKind.i64.wrap (t2 + rc lsl_3 k2 0))) (v := .int .i64 (t2 + rc lsl_3 k2 0)) hF (by kernel_rfl) (fun _ => by kernel_rfl) (wi (by omega)) fun a hF => ?_)
       refine sB 1 [(11, .int .i64 (t2 + rc lsl_3 k2 0))] hF (by kernel_rfl) fun a hF => ?_
       refine wpList_nil ?_
       refine hK48 _ _ ?_
       refine wp_seq_k fun K49 hK49 => ?_
       refine wp_region_lit ?_
       refine wl (eL 113 35 0 (v := .agg #[.int .u16 (rc lsl_3 k2 0), .int .u8 (rc lsl_3 k2 1), .int .u8 (rc lsl_3 k2 2), .int .u8 (rc lsl_3 k2 3), .int .u8 (rc lsl_3 k2 4)]) hF hM (by kernel_rfl) rfl rfl (by kernel_rfl) (by kernel_rfl) fun a w hF hM => ?_)
       obtain ⟨it1_2, e_it1_2⟩ : ∃ x : Int, x = rc lsl_3 k2 2 % 4 := ⟨_, rfl⟩
       obtain ⟨it3_2, e_it3_2⟩ : ∃ x : Int, x = rc lsl_3 k2 3 % 8 := ⟨_, rfl⟩
       obtain ⟨it4_2, e_it4_2⟩ : ∃ x : Int, x = 84 + rc lsl_3 k2 4 % 4 := ⟨_, rfl⟩
       have hv_it1_2 : viB it1_2 0 it3_2 it4_2 0 = true := decide_eq_true (by unfold viP; omega)
       refine wl (eM 114 (v := .agg #[.int .i64 it1_2, .int .i64 0, .int .i64 it3_2, .int .i64 it4_2, .int .i64 0]) hF hM (by kernel_rfl) (yld_call (f := 22) (args := #[.agg #[.int .u16 (rc lsl_3 k2 0), .int .u8 (rc lsl_3 k2 1), .int .u8 (rc lsl_3 k2 2), .int .u8 (rc lsl_3 k2 3), .int .u8 (rc lsl_3 k2 4)]]) hF (by kernel_rfl) (fun _ => by kernel_rfl) (fun w hM => by rw [e_it1_2, e_it3_2, e_it4_2]; exact item_w (rc lsl_3 k2 0) (rc lsl_3 k2 1) (rc lsl_3 k2 2) (rc lsl_3 k2 3) (rc lsl_3 k2 4) w (by omega))) fun a w hF hM => ?_)
       refine wl (eN 25 36 (t := 39) (fun b => .pointer (some ⟨b, 0, none⟩)) #[.int .i64 0, .int .i64 0, .int .i64 0, .int .i64 0, .int .i64 0] hF hM (by kernel_rfl) (fun _ => by kernel_rfl) fun bb30 a w hF hM => ?_)
       refine wl (sStore (i := 36) (off := 0) (cs' := #[.int .i64 it1_2, .int .i64 0, .int .i64 it3_2, .int .i64 it4_2, .int .i64 0]) hF hM (by kernel_rfl) rfl rfl (by kernel_rfl) (by kernel_rfl) rfl (by kernel_rfl) fun w hM => ?_)
       refine wpList_nil ?_
       refine hK49 _ _ ?_
       refine wp_seq_k fun K50 hK50 => ?_
       refine wp_region_lit ?_
       refine wl (eL 116 24 0 (v := .agg #[.slice G la.length gc, .slice (some ⟨bb16, 0, none⟩) 1 1, .int .i64 fn2, .slice H3 l2.length h3_, .slice H4 m2.length h4_]) hF hM (by kernel_rfl) rfl rfl (by kernel_rfl) (by kernel_rfl) fun a w hF hM => ?_)
       refine sB 1 [(117, .pointer (some ⟨bb29, 1, none⟩))] hF (by kernel_rfl) fun a hF => ?_
       refine wl (eL 118 35 1 (v := .int .u8 (rc lsl_3 k2 1)) hF hM (by kernel_rfl) rfl rfl (by kernel_rfl) (by kernel_rfl) fun a w hF hM => ?_)
       refine wl (eM 119 (v := .int .u8 (rc lsl_3 k2 1 % 3)) hF hM (by kernel_rfl) (yld_rem (rc lsl_3 k2 1) 3 hF rfl (by kernel_rfl) (by kernel_rfl) (by kernel_rfl) (by decide) (Int.tmod_eq_emod_of_nonneg (by omega))) fun a w hF hM => ?_)
       refine wl (eP 120 (v0 := .int .i64 (IntKind.i64.wrap (rc lsl_3 k2 1 % 3))) (v := .int .i64 (rc lsl_3 k2 1 % 3)) hF (by kernel_rfl) (fun _ => by kernel_rfl) (vi (IntWalk.i64_in _ (by omega))) fun a hF => ?_)
       refine wl (eL 121 36 0 (v := .agg #[.int .i64 it1_2, .int .i64 0, .int .i64 it3_2, .int .i64 it4_2, .int .i64 0]) hF hM (by kernel_rfl) rfl rfl (by kernel_rfl) (by kernel_rfl) fun a w hF hM => ?_)
       refine sB 1 [(122, .int .i64 (t2 + rc lsl_3 k2 0))] hF (by kernel_rfl) fun a hF => ?_
       obtain ⟨pl_2, pm_2, pv_2, epl_2⟩ : ∃ x y z, psR la [[1, 200, 1000, 300, 4000]] l2 m2 (rc lsl_3 k2 1 % 3) it1_2 it3_2 it4_2 (t2 + rc lsl_3 k2 0) = (x, y, z) := ⟨_, _, _, rfl⟩
       have lpl_2 := psR_len epl_2
       have hpm_2 := psR_wr epl_2 (show WR 3 m2 from by assumption)
       have fpl_2 := psR_ok (i2 := 0) (i5 := 0) hfl_fn2 hv_it1_2 ⟨(by omega), (by omega)⟩ epl_2
       refine wl (sRo2 37 38 (f := 17) (args := #[.agg #[.slice G la.length gc, .slice (some ⟨bb16, 0, none⟩) 1 1, .int .i64 fn2, .slice H3 l2.length h3_, .slice H4 m2.length h4_], .int .i64 (rc lsl_3 k2 1 % 3), .agg #[.int .i64 it1_2, .int .i64 0, .int .i64 it3_2, .int .i64 it4_2, .int .i64 0], .int .i64 (t2 + rc lsl_3 k2 0)]) (mk := (fun x y => .tuple #[.agg #[.slice G la.length gc, .slice (some ⟨bb16, 0, none⟩) 1 1, .int .i64 (t2 + rc lsl_3 k2 0), x, y], .int .i64 pv_2, .int .i64 0])) (A3 := H3) (A4 := H4) (n3 := pl_2.length) (n4 := pm_2.length) (xs := (pl_2.map (Value.int .i64))) (ys := (flatR pm_2)) hF hM (by kernel_rfl) rfl (by decide) (by kernel_rfl) (fun _ => by kernel_rfl) (fiPass_ok G la gc (some ⟨bb16, 0, none⟩) [[1, 200, 1000, 300, 4000]] 1 fn2 H3 l2 h3_ H4 m2 h4_ (rc lsl_3 k2 1 % 3) it1_2 0 it3_2 it4_2 0 (t2 + rc lsl_3 k2 0) w (ro_of_own (hM.ok 7 _ rfl)) hWla (hM.roRow (k := 20) rfl) (show WR 5 ([[1, 200, 1000, 300, 4000]] : List (List Int)) from by unfold WR; simp) (hM.ok 21 _ rfl) (hM.ok 22 _ rfl) (show WR 3 m2 from by assumption) hfl_fn2 ⟨(by omega), (by omega)⟩ hv_it1_2 ⟨(by omega), (by omega)⟩ epl_2 lpl_2.1 lpl_2.2) (freeOr hM (k := 21) rfl (by simp only [List.length_map]; omega)) (freeOr hM (k := 22) rfl (by rw [flatR_length (show WR 3 m2 from by assumption), flatR_length hpm_2]; omega)) fun AA31 cc31 AA32 cc32 a w hF hM => ?_)
       refine sB 4 [(115, .tuple #[.agg #[.slice G la.length gc, .slice (some ⟨bb16, 0, none⟩) 1 1, .int .i64 (t2 + rc lsl_3 k2 0), .slice AA31 pl_2.length cc31, .slice AA32 pm_2.length cc32], .int .i64 pv_2, .int .i64 0]), (124, .agg #[.slice G la.length gc, .slice (some ⟨bb16, 0, none⟩) 1 1, .int .i64 (t2 + rc lsl_3 k2 0), .slice AA31 pl_2.length cc31, .slice AA32 pm_2.length cc32]), (125, .int .i64 pv_2), (126, .int .i64 0)] hF (by kernel_rfl) fun a hF => ?_
       refine wl (eN 26 39 (t := 27) (fun b => .pointer (some ⟨b, 0, none⟩)) #[.slice none 0 0, .slice none 0 0, .int .i64 0, .slice none 0 0, .slice none 0 0] hF hM (by kernel_rfl) (fun _ => by kernel_rfl) fun bb33 a w hF hM => ?_)
       refine wl (sStore (i := 39) (off := 0) (cs' := #[.slice G la.length gc, .slice (some ⟨bb16, 0, none⟩) 1 1, .int .i64 (t2 + rc lsl_3 k2 0), .slice AA31 pl_2.length cc31, .slice AA32 pm_2.length cc32]) hF hM (by kernel_rfl) rfl rfl (by kernel_rfl) (by kernel_rfl) rfl (by kernel_rfl) fun w hM => ?_)
       refine sB 2 [(27, .int .i64 pv_2), (28, .int .i64 0)] hF (by kernel_rfl) fun a hF => ?_
       refine wpList_nil ?_
       refine hK50 _ _ ?_
       refine wp_seq_k fun K51 hK51 => ?_
       refine wp_seq_k fun K52 hK52 => ?_
       refine wp_region_lit ?_
       refine sB 1 [(127, .int .i64 0)] hF (by kernel_rfl) fun a hF => ?_
       refine wl (eP 128 (v0 := .bool (!decide (0 = 0))) (v := .bool false) hF (by kernel_rfl) (fun _ => by kernel_rfl) (nT (by omega)) fun a hF => ?_)
       refine wpList_nil ?_
       refine hK52 _ _ ?_
       refine cF hF (by kernel_rfl) (by kernel_rfl) ?_
       refine wp_skip ?_
       refine hK51 _ _ ?_
       refine wp_seq_k fun K53 hK53 => ?_
       refine wp_seq_k fun K54 hK54 => ?_
       by_cases hz27 : it3_2 = i3m
       ·skip
        by_cases hz28 : it1_2 = it1
        ·skip
         by_cases hz29 : rc lsl_3 k2 1 % 3 = y1 % 3
         ·skip
          refine wp_region_lit ?_
          refine sB 1 [(129, .pointer (some ⟨bb30, 2, none⟩))] hF (by kernel_rfl) fun a hF => ?_
          refine wl (eL 130 36 2 (v := .int .i64 it3_2) hF hM (by kernel_rfl) rfl rfl (by kernel_rfl) (by kernel_rfl) fun a w hF hM => ?_)
          refine sB 1 [(131, .pointer (some ⟨bb25, 2, none⟩))] hF (by kernel_rfl) fun a hF => ?_
          refine wl (eL 132 30 2 (v := .int .i64 i3m) hF hM (by kernel_rfl) rfl rfl (by kernel_rfl) (by kernel_rfl) fun a w hF hM => ?_)
          refine wl (eP 133 (v0 := .bool (decide (it3_2 = i3m))) (v := .bool true) hF (by kernel_rfl) (fun _ => by kernel_rfl) (bT hz27) fun a hF => ?_)
          refine sB 2 [(134, .bool true), (135, .pointer (some ⟨bb30, 0, none⟩))] hF (by kernel_rfl) fun a hF => ?_
          refine wl (eL 136 36 0 (v := .int .i64 it1_2) hF hM (by kernel_rfl) rfl rfl (by kernel_rfl) (by kernel_rfl) fun a w hF hM => ?_)
          refine sB 1 [(137, .pointer (some ⟨bb25, 0, none⟩))] hF (by kernel_rfl) fun a hF => ?_
          refine wl (eL 138 30 0 (v := .int .i64 it1) hF hM (by kernel_rfl) rfl rfl (by kernel_rfl) (by kernel_rfl) fun a w hF hM => ?_)
          refine wl (eP 139 (v0 := .bool (decide (it1_2 = it1))) (v := .bool true) hF (by kernel_rfl) (fun _ => by kernel_rfl) (bT hz28) fun a hF => ?_)
          refine sB 3 [(140, .bool true), (141, .bool true), (142, .pointer (some ⟨bb29, 1, none⟩))] hF (by kernel_rfl) fun a hF => ?_
          refine wl (eL 143 35 1 (v := .int .u8 (rc lsl_3 k2 1)) hF hM (by kernel_rfl) rfl rfl (by kernel_rfl) (by kernel_rfl) fun a w hF hM => ?_)
          refine wl (eM 144 (v := .int .u8 (rc lsl_3 k2 1 % 3)) hF hM (by kernel_rfl) (yld_rem (rc lsl_3 k2 1) 3 hF rfl (by kernel_rfl) (by kernel_rfl) (by kernel_rfl) (by decide) (Int.tmod_eq_emod_of_nonneg (by omega))) fun a w hF hM => ?_)
          refine wl (eP 145 (v0 := .int .i64 (IntKind.i64.wrap (rc lsl_3 k2 1 % 3))) (v := .int .i64 (rc lsl_3 k2 1 % 3)) hF (by kernel_rfl) (fun _ => by kernel_rfl) (vi (IntWalk.i64_in _ (by omega))) fun a hF => ?_)
          refine sB 1 [(146, .int .i64 (y1 % 3))] hF (by kernel_rfl) fun a hF => ?_
          refine wl (eP 147 (v0 := .bool (decide (rc lsl_3 k2 1 % 3 = y1 % 3))) (v := .bool true) hF (by kernel_rfl) (fun _ => by kernel_rfl) (bT hz29) fun a hF => ?_)
          refine sB 5 [(148, .bool true), (149, .bool true), (150, .int .i64 pv_2), (151, .bool (decide (pv_2 = 0))), (152, .bool (decide (pv_2 = 0)))] hF (by kernel_rfl) fun a hF => ?_
          refine wpList_nil ?_
          refine hK54 _ _ ?_
          by_cases hz30 : pv_2 = 0
          ·skip
           replace hF := hF.c hF (i := 151) (v := .bool true) rfl (bT hz30)
           replace hF := hF.c hF (i := 152) (v := .bool true) rfl (bT hz30)
           refine cT hF (by kernel_rfl) (by kernel_rfl) ?_
           refine wp_exit ?_
           refine hK46 _ _ ?_
           refine wp_region_lit ?_
           refine wl (eP 154 (v0 := .int .i64 (IntKind.i64.wrap ((k2 : Int) + 1))) (v := .int .i64 ((k2 : Int) + 1)) hF (by kernel_rfl) (fun _ => by kernel_rfl) (wi (by omega)) fun a hF => ?_)
           refine sB 1 [(104, .int .i64 ((k2 : Int) + 1))] hF (by kernel_rfl) fun a hF => ?_
           refine wpList_nil ?_
           refine hK43 _ _ ⟨(k2 + 1, fn2, l2, m2, H3, h3_, H4, h4_, t2 + rc lsl_3 k2 0), ⟨(((((((((((Fr.nil hF).c hF (i := 103) rfl rfl).c hF (i := 102) rfl rfl).c hF (i := 22) rfl rfl).c hF (i := 21) rfl rfl).c hF (i := 19) rfl rfl).c hF (i := 18) rfl rfl).c hF (i := 17) rfl rfl).c hF (i := 9) rfl rfl).c hF (i := 104) rfl (vi (show ((k2 : Int) + 1 : Int) = ((k2 + 1) : Int) from by omega))).c hF (i := 11) rfl rfl), (hM.sub ((((((((((((((Sub.nil.c (k := 34) rfl rfl).c (k := 32) rfl rfl).c (k := 31) rfl rfl).c (k := 30) rfl rfl).c (k := 25) rfl rfl).c (k := 24) rfl rfl).c (k := 22) rfl rfl).c (k := 21) rfl rfl).c (k := 20) rfl rfl).c (k := 7) rfl rfl).c (k := 6) rfl rfl).c (k := 3) rfl rfl).c (k := 2) rfl rfl).c (k := 1) rfl rfl)), (show ((k2 + 1) : Int) ≤ (lsl_3.length : Int) from by omega), (show -1000 ≤ fn2 from by omega), (show flE la [[1, 200, 1000, 300, 4000]] fn2 l2 m2 = 0 from by assumption), (show WR 3 m2 from by assumption), (show (l2.length : Int) = (la.length : Int) from by omega), (show (m2.length : Int) = 1 from by omega), (show 0 ≤ (t2 + rc lsl_3 k2 0) ∧ (t2 + rc lsl_3 k2 0) ≤ tt + 65535 * ((k2 + 1) : Int) from by omega), (show fn2 ≤ (t2 + rc lsl_3 k2 0) from by omega), (show AInv la lz l2 (y1 % 3) it1 i3m from by assumption)⟩, (show lsl_3.length - (k2 + 1) < lsl_3.length - k2 from by omega)⟩
          ·skip
           replace hF := hF.c hF (i := 151) (v := .bool false) rfl (bF hz30)
           replace hF := hF.c hF (i := 152) (v := .bool false) rfl (bF hz30)
           refine cF hF (by kernel_rfl) (by kernel_rfl) ?_
           refine wp_skip ?_
           refine hK53 _ _ ?_
           refine wp_region_lit ?_
           refine wl (eL 153 39 0 (v := .agg #[.slice G la.length gc, .slice (some ⟨bb16, 0, none⟩) 1 1, .int .i64 (t2 + rc lsl_3 k2 0), .slice AA31 pl_2.length cc31, .slice AA32 pm_2.length cc32]) hF hM (by kernel_rfl) rfl rfl (by kernel_rfl) (by kernel_rfl) fun a w hF hM => ?_)
           refine wl (sStore (i := 24) (off := 0) (cs' := #[.slice G la.length gc, .slice (some ⟨bb16, 0, none⟩) 1 1, .int .i64 (t2 + rc lsl_3 k2 0), .slice AA31 pl_2.length cc31, .slice AA32 pm_2.length cc32]) hF hM (by kernel_rfl) rfl rfl (by kernel_rfl) (by kernel_rfl) rfl (by kernel_rfl) fun w hM => ?_)
           refine wpList_nil ?_
           refine hK46 _ _ ?_
           refine wp_region_lit ?_
           refine wl (eP 154 (v0 := .int .i64 (IntKind.i64.wrap ((k2 : Int) + 1))) (v := .int .i64 ((k2 : Int) + 1)) hF (by kernel_rfl) (fun _ => by kernel_rfl) (wi (by omega)) fun a hF => ?_)
           refine sB 1 [(104, .int .i64 ((k2 : Int) + 1))] hF (by kernel_rfl) fun a hF => ?_
           refine wpList_nil ?_
           replace hM := hM.move 21 37 rfl (by decide)
           replace hM := hM.move 22 38 rfl (by decide)
           refine hK43 _ _ ⟨(k2 + 1, t2 + rc lsl_3 k2 0, pl_2, pm_2, AA31, cc31, AA32, cc32, t2 + rc lsl_3 k2 0), ⟨(((((((((((Fr.nil hF).c hF (i := 103) rfl rfl).c hF (i := 102) rfl rfl).c hF (i := 22) rfl rfl).c hF (i := 21) rfl rfl).c hF (i := 19) rfl rfl).c hF (i := 18) rfl rfl).c hF (i := 17) rfl rfl).c hF (i := 9) rfl rfl).c hF (i := 104) rfl (vi (show ((k2 : Int) + 1 : Int) = ((k2 + 1) : Int) from by omega))).c hF (i := 11) rfl rfl), (hM.sub ((((((((((((((Sub.nil.c (k := 34) rfl rfl).c (k := 32) rfl rfl).c (k := 31) rfl rfl).c (k := 30) rfl rfl).c (k := 25) rfl rfl).c (k := 24) rfl rfl).c (k := 22) rfl rfl).c (k := 21) rfl rfl).c (k := 20) rfl rfl).c (k := 7) rfl rfl).c (k := 6) rfl rfl).c (k := 3) rfl rfl).c (k := 2) rfl rfl).c (k := 1) rfl rfl)), (show ((k2 + 1) : Int) ≤ (lsl_3.length : Int) from by omega), (show -1000 ≤ (t2 + rc lsl_3 k2 0) from by omega), (show flE la [[1, 200, 1000, 300, 4000]] (t2 + rc lsl_3 k2 0) pl_2 pm_2 = 0 from by exact fpl_2), (show WR 3 pm_2 from by exact hpm_2), (show (pl_2.length : Int) = (la.length : Int) from by omega), (show (pm_2.length : Int) = 1 from by omega), (show 0 ≤ (t2 + rc lsl_3 k2 0) ∧ (t2 + rc lsl_3 k2 0) ≤ tt + 65535 * ((k2 + 1) : Int) from by omega), (show (t2 + rc lsl_3 k2 0) ≤ (t2 + rc lsl_3 k2 0) from by omega), (show AInv la lz pl_2 (y1 % 3) it1 i3m from by exact AInv.step (by assumption) (by omega) epl_2 (by omega))⟩, (show lsl_3.length - (k2 + 1) < lsl_3.length - k2 from by omega)⟩
         ·skip
          refine wp_region_lit ?_
          refine sB 1 [(129, .pointer (some ⟨bb30, 2, none⟩))] hF (by kernel_rfl) fun a hF => ?_
          refine wl (eL 130 36 2 (v := .int .i64 it3_2) hF hM (by kernel_rfl) rfl rfl (by kernel_rfl) (by kernel_rfl) fun a w hF hM => ?_)
          refine sB 1 [(131, .pointer (some ⟨bb25, 2, none⟩))] hF (by kernel_rfl) fun a hF => ?_
          refine wl (eL 132 30 2 (v := .int .i64 i3m) hF hM (by kernel_rfl) rfl rfl (by kernel_rfl) (by kernel_rfl) fun a w hF hM => ?_)
          refine wl (eP 133 (v0 := .bool (decide (it3_2 = i3m))) (v := .bool true) hF (by kernel_rfl) (fun _ => by kernel_rfl) (bT hz27) fun a hF => ?_)
          refine sB 2 [(134, .bool true), (135, .pointer (some ⟨bb30, 0, none⟩))] hF (by kernel_rfl) fun a hF => ?_
          refine wl (eL 136 36 0 (v := .int .i64 it1_2) hF hM (by kernel_rfl) rfl rfl (by kernel_rfl) (by kernel_rfl) fun a w hF hM => ?_)
          refine sB 1 [(137, .pointer (some ⟨bb25, 0, none⟩))] hF (by kernel_rfl) fun a hF => ?_
          refine wl (eL 138 30 0 (v := .int .i64 it1) hF hM (by kernel_rfl) rfl rfl (by kernel_rfl) (by kernel_rfl) fun a w hF hM => ?_)
          refine wl (eP 139 (v0 := .bool (decide (it1_2 = it1))) (v := .bool true) hF (by kernel_rfl) (fun _ => by kernel_rfl) (bT hz28) fun a hF => ?_)
          refine sB 3 [(140, .bool true), (141, .bool true), (142, .pointer (some ⟨bb29, 1, none⟩))] hF (by kernel_rfl) fun a hF => ?_
          refine wl (eL 143 35 1 (v := .int .u8 (rc lsl_3 k2 1)) hF hM (by kernel_rfl) rfl rfl (by kernel_rfl) (by kernel_rfl) fun a w hF hM => ?_)
          refine wl (eM 144 (v := .int .u8 (rc lsl_3 k2 1 % 3)) hF hM (by kernel_rfl) (yld_rem (rc lsl_3 k2 1) 3 hF rfl (by kernel_rfl) (by kernel_rfl) (by kernel_rfl) (by decide) (Int.tmod_eq_emod_of_nonneg (by omega))) fun a w hF hM => ?_)
          refine wl (eP 145 (v0 := .int .i64 (IntKind.i64.wrap (rc lsl_3 k2 1 % 3))) (v := .int .i64 (rc lsl_3 k2 1 % 3)) hF (by kernel_rfl) (fun _ => by kernel_rfl) (vi (IntWalk.i64_in _ (by omega))) fun a hF => ?_)
          refine sB 1 [(146, .int .i64 (y1 % 3))] hF (by kernel_rfl) fun a hF => ?_
          refine wl (eP 147 (v0 := .bool (decide (rc lsl_3 k2 1 % 3 = y1 % 3))) (v := .bool false) hF (by kernel_rfl) (fun _ => by kernel_rfl) (bF hz29) fun a hF => ?_)
          refine sB 5 [(148, .bool false), (149, .bool false), (150, undef), (151, undef), (152, .bool false)] hF (by kernel_rfl) fun a hF => ?_
          refine wpList_nil ?_
          refine hK54 _ _ ?_
          refine cF hF (by kernel_rfl) (by kernel_rfl) ?_
          refine wp_skip ?_
          refine hK53 _ _ ?_
          refine wp_region_lit ?_
          refine wl (eL 153 39 0 (v := .agg #[.slice G la.length gc, .slice (some ⟨bb16, 0, none⟩) 1 1, .int .i64 (t2 + rc lsl_3 k2 0), .slice AA31 pl_2.length cc31, .slice AA32 pm_2.length cc32]) hF hM (by kernel_rfl) rfl rfl (by kernel_rfl) (by kernel_rfl) fun a w hF hM => ?_)
          refine wl (sStore (i := 24) (off := 0) (cs' := #[.slice G la.length gc, .slice (some ⟨bb16, 0, none⟩) 1 1, .int .i64 (t2 + rc lsl_3 k2 0), .slice AA31 pl_2.length cc31, .slice AA32 pm_2.length cc32]) hF hM (by kernel_rfl) rfl rfl (by kernel_rfl) (by kernel_rfl) rfl (by kernel_rfl) fun w hM => ?_)
          refine wpList_nil ?_
          refine hK46 _ _ ?_
          refine wp_region_lit ?_
          refine wl (eP 154 (v0 := .int .i64 (IntKind.i64.wrap ((k2 : Int) + 1))) (v := .int .i64 ((k2 : Int) + 1)) hF (by kernel_rfl) (fun _ => by kernel_rfl) (wi (by omega)) fun a hF => ?_)
          refine sB 1 [(104, .int .i64 ((k2 : Int) + 1))] hF (by kernel_rfl) fun a hF => ?_
          refine wpList_nil ?_
          replace hM := hM.move 21 37 rfl (by decide)
          replace hM := hM.move 22 38 rfl (by decide)
          refine hK43 _ _ ⟨(k2 + 1, t2 + rc lsl_3 k2 0, pl_2, pm_2, AA31, cc31, AA32, cc32, t2 + rc lsl_3 k2 0), ⟨(((((((((((Fr.nil hF).c hF (i := 103) rfl rfl).c hF (i := 102) rfl rfl).c hF (i := 22) rfl rfl).c hF (i := 21) rfl rfl).c hF (i := 19) rfl rfl).c hF (i := 18) rfl rfl).c hF (i := 17) rfl rfl).c hF (i := 9) rfl rfl).c hF (i := 104) rfl (vi (show ((k2 : Int) + 1 : Int) = ((k2 + 1) : Int) from by omega))).c hF (i := 11) rfl rfl), (hM.sub ((((((((((((((Sub.nil.c (k := 34) rfl rfl).c (k := 32) rfl rfl).c (k := 31) rfl rfl).c (k := 30) rfl rfl).c (k := 25) rfl rfl).c (k := 24) rfl rfl).c (k := 22) rfl rfl).c (k := 21) rfl rfl).c (k := 20) rfl rfl).c (k := 7) rfl rfl).c (k := 6) rfl rfl).c (k := 3) rfl rfl).c (k := 2) rfl rfl).c (k := 1) rfl rfl)), (show ((k2 + 1) : Int) ≤ (lsl_3.length : Int) from by omega), (show -1000 ≤ (t2 + rc lsl_3 k2 0) from by omega), (show flE la [[1, 200, 1000, 300, 4000]] (t2 + rc lsl_3 k2 0) pl_2 pm_2 = 0 from by exact fpl_2), (show WR 3 pm_2 from by exact hpm_2), (show (pl_2.length : Int) = (la.length : Int) from by omega), (show (pm_2.length : Int) = 1 from by omega), (show 0 ≤ (t2 + rc lsl_3 k2 0) ∧ (t2 + rc lsl_3 k2 0) ≤ tt + 65535 * ((k2 + 1) : Int) from by omega), (show (t2 + rc lsl_3 k2 0) ≤ (t2 + rc lsl_3 k2 0) from by omega), (show AInv la lz pl_2 (y1 % 3) it1 i3m from by exact AInv.step (by assumption) (by omega) epl_2 (by omega))⟩, (show lsl_3.length - (k2 + 1) < lsl_3.length - k2 from by omega)⟩
        ·skip
         refine wp_region_lit ?_
         refine sB 1 [(129, .pointer (some ⟨bb30, 2, none⟩))] hF (by kernel_rfl) fun a hF => ?_
         refine wl (eL 130 36 2 (v := .int .i64 it3_2) hF hM (by kernel_rfl) rfl rfl (by kernel_rfl) (by kernel_rfl) fun a w hF hM => ?_)
         refine sB 1 [(131, .pointer (some ⟨bb25, 2, none⟩))] hF (by kernel_rfl) fun a hF => ?_
         refine wl (eL 132 30 2 (v := .int .i64 i3m) hF hM (by kernel_rfl) rfl rfl (by kernel_rfl) (by kernel_rfl) fun a w hF hM => ?_)
         refine wl (eP 133 (v0 := .bool (decide (it3_2 = i3m))) (v := .bool true) hF (by kernel_rfl) (fun _ => by kernel_rfl) (bT hz27) fun a hF => ?_)
         refine sB 2 [(134, .bool true), (135, .pointer (some ⟨bb30, 0, none⟩))] hF (by kernel_rfl) fun a hF => ?_
         refine wl (eL 136 36 0 (v := .int .i64 it1_2) hF hM (by kernel_rfl) rfl rfl (by kernel_rfl) (by kernel_rfl) fun a w hF hM => ?_)
         refine sB 1 [(137, .pointer (some ⟨bb25, 0, none⟩))] hF (by kernel_rfl) fun a hF => ?_
         refine wl (eL 138 30 0 (v := .int .i64 it1) hF hM (by kernel_rfl) rfl rfl (by kernel_rfl) (by kernel_rfl) fun a w hF hM => ?_)
         refine wl (eP 139 (v0 := .bool (decide (it1_2 = it1))) (v := .bool false) hF (by kernel_rfl) (fun _ => by kernel_rfl) (bF hz28) fun a hF => ?_)
         refine sB 13 [(140, .bool false), (141, .bool false), (142, undef), (143, undef), (144, undef), (145, undef), (146, undef), (147, undef), (148, .bool false), (149, .bool false), (150, undef), (151, undef), (152, .bool false)] hF (by kernel_rfl) fun a hF => ?_
         refine wpList_nil ?_
         refine hK54 _ _ ?_
         refine cF hF (by kernel_rfl) (by kernel_rfl) ?_
         refine wp_skip ?_
         refine hK53 _ _ ?_
         refine wp_region_lit ?_
         refine wl (eL 153 39 0 (v := .agg #[.slice G la.length gc, .slice (some ⟨bb16, 0, none⟩) 1 1, .int .i64 (t2 + rc lsl_3 k2 0), .slice AA31 pl_2.length cc31, .slice AA32 pm_2.length cc32]) hF hM (by kernel_rfl) rfl rfl (by kernel_rfl) (by kernel_rfl) fun a w hF hM => ?_)
         refine wl (sStore (i := 24) (off := 0) (cs' := #[.slice G la.length gc, .slice (some ⟨bb16, 0, none⟩) 1 1, .int .i64 (t2 + rc lsl_3 k2 0), .slice AA31 pl_2.length cc31, .slice AA32 pm_2.length cc32]) hF hM (by kernel_rfl) rfl rfl (by kernel_rfl) (by kernel_rfl) rfl (by kernel_rfl) fun w hM => ?_)
         refine wpList_nil ?_
         refine hK46 _ _ ?_
         refine wp_region_lit ?_
         refine wl (eP 154 (v0 := .int .i64 (IntKind.i64.wrap ((k2 : Int) + 1))) (v := .int .i64 ((k2 : Int) + 1)) hF (by kernel_rfl) (fun _ => by kernel_rfl) (wi (by omega)) fun a hF => ?_)
         refine sB 1 [(104, .int .i64 ((k2 : Int) + 1))] hF (by kernel_rfl) fun a hF => ?_
         refine wpList_nil ?_
         replace hM := hM.move 21 37 rfl (by decide)
         replace hM := hM.move 22 38 rfl (by decide)
         refine hK43 _ _ ⟨(k2 + 1, t2 + rc lsl_3 k2 0, pl_2, pm_2, AA31, cc31, AA32, cc32, t2 + rc lsl_3 k2 0), ⟨(((((((((((Fr.nil hF).c hF (i := 103) rfl rfl).c hF (i := 102) rfl rfl).c hF (i := 22) rfl rfl).c hF (i := 21) rfl rfl).c hF (i := 19) rfl rfl).c hF (i := 18) rfl rfl).c hF (i := 17) rfl rfl).c hF (i := 9) rfl rfl).c hF (i := 104) rfl (vi (show ((k2 : Int) + 1 : Int) = ((k2 + 1) : Int) from by omega))).c hF (i := 11) rfl rfl), (hM.sub ((((((((((((((Sub.nil.c (k := 34) rfl rfl).c (k := 32) rfl rfl).c (k := 31) rfl rfl).c (k := 30) rfl rfl).c (k := 25) rfl rfl).c (k := 24) rfl rfl).c (k := 22) rfl rfl).c (k := 21) rfl rfl).c (k := 20) rfl rfl).c (k := 7) rfl rfl).c (k := 6) rfl rfl).c (k := 3) rfl rfl).c (k := 2) rfl rfl).c (k := 1) rfl rfl)), (show ((k2 + 1) : Int) ≤ (lsl_3.length : Int) from by omega), (show -1000 ≤ (t2 + rc lsl_3 k2 0) from by omega), (show flE la [[1, 200, 1000, 300, 4000]] (t2 + rc lsl_3 k2 0) pl_2 pm_2 = 0 from by exact fpl_2), (show WR 3 pm_2 from by exact hpm_2), (show (pl_2.length : Int) = (la.length : Int) from by omega), (show (pm_2.length : Int) = 1 from by omega), (show 0 ≤ (t2 + rc lsl_3 k2 0) ∧ (t2 + rc lsl_3 k2 0) ≤ tt + 65535 * ((k2 + 1) : Int) from by omega), (show (t2 + rc lsl_3 k2 0) ≤ (t2 + rc lsl_3 k2 0) from by omega), (show AInv la lz pl_2 (y1 % 3) it1 i3m from by exact AInv.step (by assumption) (by omega) epl_2 (by omega))⟩, (show lsl_3.length - (k2 + 1) < lsl_3.length - k2 from by omega)⟩
       ·skip
        refine wp_region_lit ?_
        refine sB 1 [(129, .pointer (some ⟨bb30, 2, none⟩))] hF (by kernel_rfl) fun a hF => ?_
        refine wl (eL 130 36 2 (v := .int .i64 it3_2) hF hM (by kernel_rfl) rfl rfl (by kernel_rfl) (by kernel_rfl) fun a w hF hM => ?_)
        refine sB 1 [(131, .pointer (some ⟨bb25, 2, none⟩))] hF (by kernel_rfl) fun a hF => ?_
        refine wl (eL 132 30 2 (v := .int .i64 i3m) hF hM (by kernel_rfl) rfl rfl (by kernel_rfl) (by kernel_rfl) fun a w hF hM => ?_)
        refine wl (eP 133 (v0 := .bool (decide (it3_2 = i3m))) (v := .bool false) hF (by kernel_rfl) (fun _ => by kernel_rfl) (bF hz27) fun a hF => ?_)
        refine sB 19 [(134, .bool false), (135, undef), (136, undef), (137, undef), (138, undef), (139, undef), (140, .bool false), (141, .bool false), (142, undef), (143, undef), (144, undef), (145, undef), (146, undef), (147, undef), (148, .bool false), (149, .bool false), (150, undef), (151, undef), (152, .bool false)] hF (by kernel_rfl) fun a hF => ?_
        refine wpList_nil ?_
        refine hK54 _ _ ?_
        refine cF hF (by kernel_rfl) (by kernel_rfl) ?_
        refine wp_skip ?_
        refine hK53 _ _ ?_
        refine wp_region_lit ?_
        refine wl (eL 153 39 0 (v := .agg #[.slice G la.length gc, .slice (some ⟨bb16, 0, none⟩) 1 1, .int .i64 (t2 + rc lsl_3 k2 0), .slice AA31 pl_2.length cc31, .slice AA32 pm_2.length cc32]) hF hM (by kernel_rfl) rfl rfl (by kernel_rfl) (by kernel_rfl) fun a w hF hM => ?_)
        refine wl (sStore (i := 24) (off := 0) (cs' := #[.slice G la.length gc, .slice (some ⟨bb16, 0, none⟩) 1 1, .int .i64 (t2 + rc lsl_3 k2 0), .slice AA31 pl_2.length cc31, .slice AA32 pm_2.length cc32]) hF hM (by kernel_rfl) rfl rfl (by kernel_rfl) (by kernel_rfl) rfl (by kernel_rfl) fun w hM => ?_)
        refine wpList_nil ?_
        refine hK46 _ _ ?_
        refine wp_region_lit ?_
        refine wl (eP 154 (v0 := .int .i64 (IntKind.i64.wrap ((k2 : Int) + 1))) (v := .int .i64 ((k2 : Int) + 1)) hF (by kernel_rfl) (fun _ => by kernel_rfl) (wi (by omega)) fun a hF => ?_)
        refine sB 1 [(104, .int .i64 ((k2 : Int) + 1))] hF (by kernel_rfl) fun a hF => ?_
        refine wpList_nil ?_
        replace hM := hM.move 21 37 rfl (by decide)
        replace hM := hM.move 22 38 rfl (by decide)
        refine hK43 _ _ ⟨(k2 + 1, t2 + rc lsl_3 k2 0, pl_2, pm_2, AA31, cc31, AA32, cc32, t2 + rc lsl_3 k2 0), ⟨(((((((((((Fr.nil hF).c hF (i := 103) rfl rfl).c hF (i := 102) rfl rfl).c hF (i := 22) rfl rfl).c hF (i := 21) rfl rfl).c hF (i := 19) rfl rfl).c hF (i := 18) rfl rfl).c hF (i := 17) rfl rfl).c hF (i := 9) rfl rfl).c hF (i := 104) rfl (vi (show ((k2 : Int) + 1 : Int) = ((k2 + 1) : Int) from by omega))).c hF (i := 11) rfl rfl), (hM.sub ((((((((((((((Sub.nil.c (k := 34) rfl rfl).c (k := 32) rfl rfl).c (k := 31) rfl rfl).c (k := 30) rfl rfl).c (k := 25) rfl rfl).c (k := 24) rfl rfl).c (k := 22) rfl rfl).c (k := 21) rfl rfl).c (k := 20) rfl rfl).c (k := 7) rfl rfl).c (k := 6) rfl rfl).c (k := 3) rfl rfl).c (k := 2) rfl rfl).c (k := 1) rfl rfl)), (show ((k2 + 1) : Int) ≤ (lsl_3.length : Int) from by omega), (show -1000 ≤ (t2 + rc lsl_3 k2 0) from by omega), (show flE la [[1, 200, 1000, 300, 4000]] (t2 + rc lsl_3 k2 0) pl_2 pm_2 = 0 from by exact fpl_2), (show WR 3 pm_2 from by exact hpm_2), (show (pl_2.length : Int) = (la.length : Int) from by omega), (show (pm_2.length : Int) = 1 from by omega), (show 0 ≤ (t2 + rc lsl_3 k2 0) ∧ (t2 + rc lsl_3 k2 0) ≤ tt + 65535 * ((k2 + 1) : Int) from by omega), (show (t2 + rc lsl_3 k2 0) ≤ (t2 + rc lsl_3 k2 0) from by omega), (show AInv la lz pl_2 (y1 % 3) it1 i3m from by exact AInv.step (by assumption) (by omega) epl_2 (by omega))⟩, (show lsl_3.length - (k2 + 1) < lsl_3.length - k2 from by omega)⟩
      ·skip
       replace hF := hF.c hF (i := 105) (v := .bool false) rfl (bF hz26)
       refine cF hF (by kernel_rfl) (by kernel_rfl) ?_
       refine wp_exit ?_
       refine hK41 _ _ ?_
       refine wp_seq_k fun K55 hK55 => ?_
       refine wp_region_lit ?_
       refine wl (eL 156 24 0 (v := .agg #[.slice G la.length gc, .slice (some ⟨bb16, 0, none⟩) 1 1, .int .i64 fn2, .slice H3 l2.length h3_, .slice H4 m2.length h4_]) hF hM (by kernel_rfl) rfl rfl (by kernel_rfl) (by kernel_rfl) fun a w hF hM => ?_)
       refine sB 1 [(157, .int .i64 (y1 % 3))] hF (by kernel_rfl) fun a hF => ?_
       refine wl (eL 158 30 0 (v := .agg #[.int .i64 it1, .int .i64 0, .int .i64 i3m, .int .i64 it4, .int .i64 0]) hF hM (by kernel_rfl) rfl rfl (by kernel_rfl) (by kernel_rfl) fun a w hF hM => ?_)
       refine sB 1 [(159, .int .i64 (tt + 655350 + y0))] hF (by kernel_rfl) fun a hF => ?_
       obtain ⟨pl_2, pm_2, pv_2, epl_2⟩ : ∃ x y z, psR la [[1, 200, 1000, 300, 4000]] l2 m2 (y1 % 3) it1 i3m it4 (tt + 655350 + y0) = (x, y, z) := ⟨_, _, _, rfl⟩
       have lpl_2 := psR_len epl_2
       have hpm_2 := psR_wr epl_2 (show WR 3 m2 from by assumption)
       have fpl_2 := psR_ok (i2 := 0) (i5 := 0) hfl_fn2 hvL ⟨(by omega), (by omega)⟩ epl_2
       refine wl (sRo2 40 41 (f := 17) (args := #[.agg #[.slice G la.length gc, .slice (some ⟨bb16, 0, none⟩) 1 1, .int .i64 fn2, .slice H3 l2.length h3_, .slice H4 m2.length h4_], .int .i64 (y1 % 3), .agg #[.int .i64 it1, .int .i64 0, .int .i64 i3m, .int .i64 it4, .int .i64 0], .int .i64 (tt + 655350 + y0)]) (mk := (fun x y => .tuple #[.agg #[.slice G la.length gc, .slice (some ⟨bb16, 0, none⟩) 1 1, .int .i64 (tt + 655350 + y0), x, y], .int .i64 pv_2, .int .i64 0])) (A3 := H3) (A4 := H4) (n3 := pl_2.length) (n4 := pm_2.length) (xs := (pl_2.map (Value.int .i64))) (ys := (flatR pm_2)) hF hM (by kernel_rfl) rfl (by decide) (by kernel_rfl) (fun _ => by kernel_rfl) (fiPass_ok G la gc (some ⟨bb16, 0, none⟩) [[1, 200, 1000, 300, 4000]] 1 fn2 H3 l2 h3_ H4 m2 h4_ (y1 % 3) it1 0 i3m it4 0 (tt + 655350 + y0) w (ro_of_own (hM.ok 7 _ rfl)) hWla (hM.roRow (k := 20) rfl) (show WR 5 ([[1, 200, 1000, 300, 4000]] : List (List Int)) from by unfold WR; simp) (hM.ok 21 _ rfl) (hM.ok 22 _ rfl) (show WR 3 m2 from by assumption) hfl_fn2 ⟨(by omega), (by omega)⟩ hvL ⟨(by omega), (by omega)⟩ epl_2 lpl_2.1 lpl_2.2) (freeOr hM (k := 21) rfl (by simp only [List.length_map]; omega)) (freeOr hM (k := 22) rfl (by rw [flatR_length (show WR 3 m2 from by assumption), flatR_length hpm_2]; omega)) fun AA34 cc34 AA35 cc35 a w hF hM => ?_)
       refine sB 4 [(155, .tuple #[.agg #[.slice G la.length gc, .slice (some ⟨bb16, 0, none⟩) 1 1, .int .i64 (tt + 655350 + y0), .slice AA34 pl_2.length cc34, .slice AA35 pm_2.length cc35], .int .i64 pv_2, .int .i64 0]), (161, .agg #[.slice G la.length gc, .slice (some ⟨bb16, 0, none⟩) 1 1, .int .i64 (tt + 655350 + y0), .slice AA34 pl_2.length cc34, .slice AA35 pm_2.length cc35]), (162, .int .i64 pv_2), (163, .int .i64 0)] hF (by kernel_rfl) fun a hF => ?_
       refine wl (eN 29 42 (t := 27) (fun b => .pointer (some ⟨b, 0, none⟩)) #[.slice none 0 0, .slice none 0 0, .int .i64 0, .slice none 0 0, .slice none 0 0] hF hM (by kernel_rfl) (fun _ => by kernel_rfl) fun bb36 a w hF hM => ?_)
       refine wl (sStore (i := 42) (off := 0) (cs' := #[.slice G la.length gc, .slice (some ⟨bb16, 0, none⟩) 1 1, .int .i64 (tt + 655350 + y0), .slice AA34 pl_2.length cc34, .slice AA35 pm_2.length cc35]) hF hM (by kernel_rfl) rfl rfl (by kernel_rfl) (by kernel_rfl) rfl (by kernel_rfl) fun w hM => ?_)
       refine sB 2 [(30, .int .i64 pv_2), (31, .int .i64 0)] hF (by kernel_rfl) fun a hF => ?_
       refine wpList_nil ?_
       refine hK55 _ _ ?_
       refine wp_seq_k fun K56 hK56 => ?_
       have hvv : pv_2 = pv := AInv.verd (by assumption) (by omega) epl epl_2
       refine wp_region_lit ?_
       refine sB 1 [(164, .int .i64 0)] hF (by kernel_rfl) fun a hF => ?_
       refine wl (eP 165 (v0 := .bool (decide (0 = 0))) (v := .bool true) hF (by kernel_rfl) (fun _ => by kernel_rfl) (bT (by omega)) fun a hF => ?_)
       refine sB 2 [(166, .bool true), (167, .int .i64 0)] hF (by kernel_rfl) fun a hF => ?_
       refine wl (eP 168 (v0 := .bool (decide (0 = 0))) (v := .bool true) hF (by kernel_rfl) (fun _ => by kernel_rfl) (bT (by omega)) fun a hF => ?_)
       refine sB 4 [(169, .bool true), (170, .bool true), (171, .int .i64 pv_2), (172, .int .i64 pv)] hF (by kernel_rfl) fun a hF => ?_
       refine wl (eP 173 (v0 := .bool (decide (pv_2 = pv))) (v := .bool true) hF (by kernel_rfl) (fun _ => by kernel_rfl) (bT hvv) fun a hF => ?_)
       refine sB 2 [(174, .bool true), (8, .bool true)] hF (by kernel_rfl) fun a hF => ?_
       refine wpList_nil ?_
       refine hK56 _ _ ?_
       refine wp_ret ?_
       refine hR0 _ _ ?_
       refine ret_of hF hM (.tmp rfl (.nil)) ?_
       exact ⟨rfl, hM.bel⟩

end Go.Proofs.Ytogeficooemngaa
