/-
  At most one frame of a scheduled stream is passed in each period.
-/
import Derived.Test.YtogeficooemngaaFiT
import Derived.Test.YtogeficooemngaaMapK
import Derived.Test.YtogeficooemngaaOpenRec
namespace Go.Proofs.Ytogeficooemngaa
open Go.RowKit
set_option linter.unusedVariables false
set_option linter.unusedSimpArgs false

def MOk (la : List (List Int)) (lz : List Int) (ml : List ME) : Prop := ∀ p ∈ ml, ∃ n : Nat, p.1.1 = (n : Int) ∧ n < la.length ∧ p.1.2 ≤ nt lz n
theorem MOk.nil {la : List (List Int)} {lz : List Int} : MOk la lz [] := fun p hp => by cases hp
theorem MOk.mono {la : List (List Int)} {lz pl : List Int} {ml : List ME} (h : MOk la lz ml) (hm : ∀ j, nt lz j ≤ nt pl j) : MOk la pl ml := fun p hp => by
  obtain ⟨n, h1, h2, h3⟩ := h p hp
  exact ⟨n, h1, h2, Int.le_trans h3 (hm n)⟩
theorem MOk.absent {la : List (List Int)} {lz : List Int} {ml : List ME} {kk : Nat} {q : Int} (h : MOk la lz ml) (hq : nt lz kk < q) : ∀ p ∈ ml, ¬ ((kk : Int) = p.1.1 ∧ q = p.1.2) := fun p hp e => by
  obtain ⟨n, h1, h2, h3⟩ := h p hp
  obtain rfl : n = kk := by omega
  omega
theorem MOk.add {la : List (List Int)} {lz pl : List Int} {ml : List ME} {kk : Nat} {q v : Int} (h : MOk la lz ml) (hm : ∀ j, nt lz j ≤ nt pl j) (hk : kk < la.length) (hq : q ≤ nt pl kk) : MOk la pl (ml ++ [(((kk : Int), q), v)]) := fun p hp => by
  rcases List.mem_append.1 hp with hp | hp
  · exact h.mono hm p hp
  · rw [List.mem_singleton] at hp
    subst hp
    exact ⟨kk, rfl, hk, hq⟩
theorem once_mono {la lq : List (List Int)} {lz pl : List Int} {m pm : List (List Int)} {port i1 i3 i4 t pv : Int} (hl : lz.length = la.length) (e : psR la lq lz m port i1 i3 i4 t = (pl, pm, pv)) : ∀ j, nt lz j ≤ nt pl j := fun j => by
  rcases psR_cases e with ⟨_, rfl, _⟩ | ⟨_, _, e'⟩
  · exact Int.le_refl _
  · rcases psA_cases e' with ⟨rfl, _⟩ | ⟨k, _, hk, _, _, _, _, _, hn, rfl, _⟩
    · exact Int.le_refl _
    · rw [nt_set (by omega)]
      by_cases ej : j = k
      · subst ej
        rw [if_pos rfl]
        omega
      · rw [if_neg ej]
        exact Int.le_refl _
theorem once_m {la : List (List Int)} {lz pl : List Int} {m pm : List (List Int)} {port i1 i3 i4 t pv : Int} (h5 : i3 ≤ 5) (e : psR la [[1, 200, 1000, 300, 4000]] lz m port i1 i3 i4 t = (pl, pm, pv)) : pv = 0 ∨ (pv = 5 ∧ port = 1) := by
  rcases psR_cases e with ⟨_, _, e'⟩ | ⟨h, _⟩
  · rcases psM_cases e' with ⟨_, _, h⟩ | ⟨k, _, hk, hp, _, hv⟩
    · exact .inl h
    · obtain rfl : k = 0 := by simp at hk; omega
      split at hv
      · exact .inr ⟨hv, hp.symm⟩
      · exact .inl hv
  · exact absurd h5 h
theorem once_u {la lq : List (List Int)} {lz pl : List Int} {m pm : List (List Int)} {port i1 i3 i4 t pv : Int} (h5 : ¬ i3 ≤ 5) (hr : regI port i1 i3 la < 0) (e : psR la lq lz m port i1 i3 i4 t = (pl, pm, pv)) : pv = 1 := by
  rcases psR_cases e with ⟨h, _⟩ | ⟨_, _, e'⟩
  · exact absurd h h5
  · unfold psA at e'
    rw [if_pos hr] at e'
    exact (Prod.mk.inj e').2.symm
theorem once_r {la lq : List (List Int)} {lz pl : List Int} {m pm : List (List Int)} {port i1 i3 i4 t pv : Int} {kk : Nat} (h5 : ¬ i3 ≤ 5) (hr : regI port i1 i3 la = (kk : Int)) (e : psR la lq lz m port i1 i3 i4 t = (pl, pm, pv)) (hv : pv = 0) :
    (rc la kk 2 = 6 ∧ i4 ≤ rc la kk 3) ∨ (¬ rc la kk 2 = 6 ∧ i4 = rc la kk 3 ∧ 0 ≤ (t - rc la kk 5) / rc la kk 4 ∧ (t - rc la kk 5) % rc la kk 4 ≤ rc la kk 6 - rc la kk 5 ∧ nt lz kk < (t - rc la kk 5) / rc la kk 4 ∧ pl = lz.set kk ((t - rc la kk 5) / rc la kk 4)) := by
  rcases psR_cases e with ⟨h, _⟩ | ⟨_, _, e'⟩
  · exact absurd h h5
  · rcases psA_cases e' with ⟨_, h⟩ | ⟨k, h1, h2, _, h6, h7, h8, h9, h10, h11, _⟩
    · rcases h with h | ⟨k, h1, _, h6, h7⟩
      · exact absurd hv h
      · obtain rfl : k = kk := by omega
        exact .inl ⟨h6, h7⟩
    · obtain rfl : k = kk := by omega
      exact .inr ⟨h6, h7, h8, h9, h10, h11⟩
theorem va_per {la lq lm : List (List Int)} {now : Int} {ls : List Int} (h : flE la lq now ls lm = 0) {k : Nat} (hk : k < la.length) : (rc la k 2 = 6 ∧ rc la k 4 = 0) ∨ (rc la k 2 = 7 ∧ 1 ≤ rc la k 4 ∧ rc la k 4 ≤ 2400000 ∧ -1099511627776 ≤ rc la k 5 ∧ rc la k 5 ≤ 1099511627776 ∧ -1099511627776 ≤ rc la k 6 ∧ rc la k 6 ≤ 1099511627776 ∧ rc la k 5 ≤ rc la k 6) := by
  have := va_k h hk
  unfold vaP at this
  omega
theorem div_ge {x p : Int} (hp : 0 < p) (h : 0 ≤ x / p) : 0 ≤ x := by
  rcases Int.lt_or_le x 0 with h1 | h1
  · have := Int.ediv_neg_of_neg_of_pos h1 hp
    omega
  · exact h1
theorem sch_pos0 {x p : Int} (hx : 0 ≤ x) (hp : 0 < p) : x / p * p ≤ x ∧ x < x / p * p + p ∧ x % p = x - x / p * p ∧ 0 ≤ x / p := by
  have h1 := Int.mul_ediv_add_emod x p
  have h2 := Int.emod_nonneg x (show p ≠ 0 by omega)
  have h3 := Int.emod_lt_of_pos x hp
  rw [Int.mul_comm] at h1
  exact ⟨by omega, by omega, by omega, Int.ediv_nonneg hx (by omega)⟩
def FrB (l : List (List Int)) : Prop := ∀ k, k < l.length → (0 ≤ rc l k 0 ∧ rc l k 0 ≤ 65535) ∧ (0 ≤ rc l k 1 ∧ rc l k 1 ≤ 255) ∧ (0 ≤ rc l k 2 ∧ rc l k 2 ≤ 255) ∧ (0 ≤ rc l k 3 ∧ rc l k 3 ≤ 255) ∧ (0 ≤ rc l k 4 ∧ rc l k 4 ≤ 255)
theorem FrB.take {l : List (List Int)} {m : Nat} (h : FrB l) : FrB (l.take m) := fun k hk => by
  rw [List.length_take] at hk
  have e : ∀ j, rc (l.take m) k j = rc l k j := fun j => by unfold rc; rw [List.getElem?_take, if_pos (by omega)]
  rw [e, e, e, e, e]
  exact h k (by omega)
theorem fr_bd {l : List (List Int)} (h : FrB l) {k : Nat} (hk : k < l.length) : (0 ≤ rc l k 0 ∧ rc l k 0 ≤ 65535) ∧ (0 ≤ rc l k 1 ∧ rc l k 1 ≤ 255) ∧ (0 ≤ rc l k 2 ∧ rc l k 2 ≤ 255) ∧ (0 ≤ rc l k 3 ∧ rc l k 3 ≤ 255) ∧ (0 ≤ rc l k 4 ∧ rc l k 4 ≤ 255) := h k hk
theorem FrB.of {l : List (List Int)} (h : ∀ k, k < l.length → ∀ i kd, ([.u16, .u8, .u8, .u8, .u8] : List IntKind)[i]? = some kd → (Lit.int kd (rc l k i)).wf = true) : FrB l := fun k hk => by
  have h0 := bounds_u16 (h k hk 0 .u16 rfl)
  have h1 := bounds_u8 (h k hk 1 .u8 rfl)
  have h2 := bounds_u8 (h k hk 2 .u8 rfl)
  have h3 := bounds_u8 (h k hk 3 .u8 rfl)
  have h4 := bounds_u8 (h k hk 4 .u8 rfl)
  omega
theorem mapTy : MapTy Try.prog 51 58 3 where
  ty := by kernel_rfl
  ka := ⟨3, by kernel_rfl⟩
  ck := fun b x y w => by kernel_rfl
  zero := fun w => by kernel_rfl
  eq := fun x y u v w => by
    have t6 : Try.prog.underlying 3 = some (.int .i64) := by kernel_rfl
    obtain ⟨i, hi⟩ := Option.isSome_iff_exists.1 (show (Try.prog.info? 3).isSome = true by kernel_rfl)
    have hag : (isAgg 3).run Try.prog w = .ok false w := isAgg_false t6 rfl
    have e := run_equalIn_array (P := Try.prog) (w := w) (t := 58) (e := 3) (n := 2) 9999 #[.int .i64 x, .int .i64 y] #[.int .i64 u, .int .i64 v] (by kernel_rfl) hi
    rw [show Try.prog.cellsOf 3 = 1 by kernel_rfl] at e
    refine Eq.trans e ?_
    simp only [List.range_succ, List.range_zero, List.nil_append, List.cons_append, Op.eqItems, part, Sem.run_bind, hag, Result.andThen_ok]
    simp [run_equalIn_int _ 9998 3 .i64 .i64 _ _ t6]
    by_cases h1 : x = u <;> by_cases h2 : y = v <;> simp [h1, h2]
set_option maxRecDepth 100000 in
set_option maxHeartbeats 40000000 in
theorem filterOnce_walk (A : Option Addr) (l : List (List Int)) (c : Nat) (B1 : Option Addr) (f1 : List (List Int)) (c1 : Nat) (w0 : World) (hA : Ro w0 A (flatR l)) (hW : WR 7 l) (hB1 : Ro w0 B1 (flatK [.u16, .u8, .u8, .u8, .u8] f1)) (hV1 : WR 5 f1) (hb1 : FrB f1) (hc : (l.length ≤ c ∧ c ≤ 9223372036854775807) ∧ f1.length ≤ c1 ∧ c1 ≤ 9223372036854775807) :
    Calls Try.prog 5 #[.slice A l.length c, .slice B1 f1.length c1] w0 (Ret w0 (.bool true)) := by
 refine enterK 211 Try.func5 rfl rfl rfl ?_
 intro a hF Q0 hR0 hN0
 have hM := Mem.start w0
 replace hM := hM.addOld 1 hA (Nat.le_refl _)
 replace hM := hM.addOld 2 hB1 (Nat.le_refl _)
 refine wp_seq_k fun K1 hK1 => ?_
 refine wp_region_lit ?_
 refine sB 1 [(4, .bool false)] hF (by kernel_rfl) fun a hF => ?_
 refine wpList_nil ?_
 refine hK1 _ _ ?_
 refine wp_seq_k fun K2 hK2 => ?_
 refine wp_seq_k fun K3 hK3 => ?_
 refine wp_region_lit ?_
 refine wl (eM 20 (v := .bool true) hF hM (by kernel_rfl) (yld_call (f := 9) (args := #[]) hF (by kernel_rfl) (fun _ => by kernel_rfl) (fun w hM => wakes_w w)) fun a w hF hM => ?_)
 refine sB 1 [(21, .bool false)] hF (by kernel_rfl) fun a hF => ?_
 refine wpList_nil ?_
 refine hK3 _ _ ?_
 refine cF hF (by kernel_rfl) (by kernel_rfl) ?_
 refine wp_skip ?_
 refine hK2 _ _ ?_
 refine wp_seq_k fun K4 hK4 => ?_
 refine wp_region_lit ?_
 refine sB 1 [(23, .slice A l.length c)] hF (by kernel_rfl) fun a hF => ?_
 refine wl (sC (f := 21) (args := #[.slice A l.length c]) hF (by kernel_rfl) rfl (by decide) (by kernel_rfl) (fun _ => by kernel_rfl) ?_)
 refine enterK 73 Try.func21 rfl rfl rfl ?_
 intro a1 hF1 QR5 hR5 hNR5
 refine wp_seq_k fun K6 hK6 => ?_
 refine wp_region_lit ?_
 refine wl (eN 2 3 (t := 27) (fun b => .pointer (some ⟨b, 0, none⟩)) #[.slice none 0 0, .slice none 0 0, .int .i64 0, .slice none 0 0, .slice none 0 0] hF1 hM (by kernel_rfl) (fun _ => by kernel_rfl) fun bb1 a1 w hF1 hM => ?_)
 refine sB 1 [(3, .bool false)] hF1 (by kernel_rfl) fun a1 hF1 => ?_
 refine wpList_nil ?_
 refine hK6 _ _ ?_
 refine wp_seq_k fun K7 hK7 => ?_
 refine wp_region_lit ?_
 refine sB 1 [(4, .slice none 0 0)] hF1 (by kernel_rfl) fun a1 hF1 => ?_
 refine wpList_nil ?_
 refine hK7 _ _ ?_
 refine wp_seq_k fun K8 hK8 => ?_
 refine wp_seq_k fun K9 hK9 => ?_
 obtain ⟨lsl, e_lsl⟩ : ∃ x : List (List Int), x = l.take ((min (l.length : Int) 6).toNat) := ⟨_, rfl⟩
 have len_lsl : (lsl.length : Int) = min (l.length : Int) 6 := by rw [e_lsl, List.length_take]; omega
 have hW_lsl : WR 7 lsl := e_lsl ▸ WR.take hW
 replace hM := hM.roMore 4 1 (xs' := (flatR lsl)) rfl (by rw [e_lsl]; exact flatR_sub _ hW)
 refine wp_region_lit ?_
 refine sB 3 [(11, .slice A l.length c), (12, .slice A l.length c), (13, .int .i64 (l.length : Int))] hF1 (by kernel_rfl) fun a1 hF1 => ?_
 refine wl (eP 14 (v0 := .int .i64 (if 6 < (l.length : Int) then 6 else (l.length : Int))) (v := .int .i64 (min (l.length : Int) 6)) hF1 (by kernel_rfl) (fun _ => by kernel_rfl) (vi (min_if _ _)) fun a1 hF1 => ?_)
 refine wl (eM 15 (v := .slice A lsl.length c) hF1 hM (by kernel_rfl) (yld_slice0 (e := 57) (len := l.length) (cap := c) (m := lsl.length) (A := A) (i := min (l.length : Int) 6) hF1 rfl (by kernel_rfl) (by kernel_rfl) (by kernel_rfl) (by kernel_rfl) (by kernel_rfl) (by omega) (by omega)) fun a1 w hF1 hM => ?_)
 refine sB 2 [(16, .int .i64 (lsl.length : Int)), (17, .int .i64 0)] hF1 (by kernel_rfl) fun a1 hF1 => ?_
 refine wpList_nil ?_
 refine hK9 _ _ ?_
 refine wp_block ?_
 replace hM := hM.addNil 5 57 7
 refine wp_loop_k (G := Nat × List (List Int) × Nat × Option Addr × Nat) (fun gg a w => Fr 73 [(4, some (.slice gg.2.2.2.1 gg.2.2.1 gg.2.2.2.2)), (17, some (.int .i64 (gg.1 : Int))), (2, some (.pointer (some ⟨bb1, 0, none⟩))), (3, some (.bool false)), (15, some (.slice A lsl.length c)), (16, some (.int .i64 (lsl.length : Int)))] a ∧ Mem w0.heap.size w0 [(1, some (.ro A (flatR l))), (2, some (.ro B1 (flatK [.u16, .u8, .u8, .u8, .u8] f1))), (3, some (.row bb1 27 #[.slice none 0 0, .slice none 0 0, .int .i64 0, .slice none 0 0, .slice none 0 0])), (4, some (.ro A (flatR lsl))), (5, some (.own (.slice gg.2.2.2.1 gg.2.2.1 gg.2.2.2.2) 57 7 gg.2.2.1 (flatR gg.2.1)))] w ∧ ((gg.1 : Int) ≤ (lsl.length : Int)) ∧ (liB gg.2.1 [] = true) ∧ (WR 7 gg.2.1) ∧ ((gg.2.1.length : Int) = (gg.2.2.1 : Int)) ∧ ((gg.2.2.1 : Int) ≤ (gg.1 : Int))) (fun gg => lsl.length - gg.1) (0, ([] : List (List Int)), 0, none, 0) ?_ ?_
 ·refine ⟨(((((((Fr.nil hF1).c hF1 (i := 16) rfl rfl).c hF1 (i := 15) rfl rfl).c hF1 (i := 3) rfl rfl).c hF1 (i := 2) rfl rfl).c hF1 (i := 17) rfl (vi (show (0 : Int) = (0 : Int) from by omega))).c hF1 (i := 4) rfl rfl), (hM.sub (((((Sub.nil.c (k := 5) rfl rfl).c (k := 4) rfl rfl).c (k := 3) rfl rfl).c (k := 2) rfl rfl).c (k := 1) rfl rfl)), (show (0 : Int) ≤ (lsl.length : Int) from by omega), (show liB ([] : List (List Int)) [] = true from by rfl), (show WR 7 ([] : List (List Int)) from by exact WR.nil), (show (([] : List (List Int)).length : Int) = (0 : Int) from by rfl), (show (0 : Int) ≤ (0 : Int) from by omega)⟩
 ·intro gg a1 w hI
  intro K10 hK10
  obtain ⟨k, la, n_, G, gc⟩ := gg
  try dsimp only at hI hK10
  obtain ⟨hF1, hM, hz1, hz2, hz3, hz4, hz5⟩ := hI
  refine wp_seq_k fun K11 hK11 => ?_
  refine wp_region_lit ?_
  refine sB 1 [(18, .bool (decide ((k : Int) < (lsl.length : Int))))] hF1 (by kernel_rfl) fun a1 hF1 => ?_
  refine wpList_nil ?_
  refine hK11 _ _ ?_
  refine wp_seq_k fun K12 hK12 => ?_
  by_cases hz6 : (k : Int) < (lsl.length : Int)
  ·skip
   replace hF1 := hF1.c hF1 (i := 18) (v := .bool true) rfl (bT hz6)
   refine cT hF1 (by kernel_rfl) (by kernel_rfl) ?_
   refine wp_skip ?_
   refine hK12 _ _ ?_
   refine wp_seq_k fun K13 hK13 => ?_
   refine wp_block ?_
   refine wp_seq_k fun K14 hK14 => ?_
   refine wp_region_lit ?_
   refine wl (eM 19 (v := .pointer (some (ea A (k * 7)))) hF1 hM (by kernel_rfl) (yld_ix (kd := .i64) (e := 57) (len := lsl.length) (cap := c) (i := (k : Int)) (size := 7) (A := A) hF1 rfl (by kernel_rfl) (by kernel_rfl) (by kernel_rfl) (by kernel_rfl) (by kernel_rfl) (roK 4 rfl) (by omega) (by omega) (by rw [flatR_length hW_lsl]; (try simp only [List.length_map, List.length_append, List.length_replicate, List.length_set, List.length_cons, List.length_nil, flat2_length, List.length_take]); omega)) fun a1 w hF1 hM => ?_)
   refine wl (eM 20 (v := .agg #[.int .i64 (rc lsl k 0), .int .i64 (rc lsl k 1), .int .i64 (rc lsl k 2), .int .i64 (rc lsl k 3), .int .i64 (rc lsl k 4), .int .i64 (rc lsl k 5), .int .i64 (rc lsl k 6)]) hF1 hM (by kernel_rfl) (yld_roM (A := A) (j := k * 7) (us := [.int .i64 (rc lsl k 0), .int .i64 (rc lsl k 1), .int .i64 (rc lsl k 2), .int .i64 (rc lsl k 3), .int .i64 (rc lsl k 4), .int .i64 (rc lsl k 5), .int .i64 (rc lsl k 6)]) hF1 rfl (by kernel_rfl) (by kernel_rfl) (roK 4 rfl) (by kernel_rfl) rfl (rc_sub (k := k) (f := 0) (m := 7) hW_lsl (by omega) (by decide) rfl)) fun a1 w hF1 hM => ?_)
   refine wl (eN 6 6 (t := 57) (fun b => .pointer (some ⟨b, 0, none⟩)) #[.int .i64 0, .int .i64 0, .int .i64 0, .int .i64 0, .int .i64 0, .int .i64 0, .int .i64 0] hF1 hM (by kernel_rfl) (fun _ => by kernel_rfl) fun bb2 a1 w hF1 hM => ?_)
   refine wl (sStore (i := 6) (off := 0) (cs' := #[.int .i64 (rc lsl k 0), .int .i64 (rc lsl k 1), .int .i64 (rc lsl k 2), .int .i64 (rc lsl k 3), .int .i64 (rc lsl k 4), .int .i64 (rc lsl k 5), .int .i64 (rc lsl k 6)]) hF1 hM (by kernel_rfl) rfl rfl (by kernel_rfl) (by kernel_rfl) rfl (by kernel_rfl) fun w hM => ?_)
   refine wpList_nil ?_
   refine hK14 _ _ ?_
   refine wp_seq_k fun K15 hK15 => ?_
   refine wp_region_lit ?_
   refine sB 1 [(21, .pointer (some ⟨bb2, 0, none⟩))] hF1 (by kernel_rfl) fun a1 hF1 => ?_
   refine wl (eL 22 6 0 (v := .int .i64 (rc lsl k 0)) hF1 hM (by kernel_rfl) rfl rfl (by kernel_rfl) (by kernel_rfl) fun a1 w hF1 hM => ?_)
   refine wl (eP 23 (v0 := .int .u64 (IntKind.u64.wrap (rc lsl k 0))) (v := .int .u64 (rc lsl k 0 % 18446744073709551616)) hF1 (by kernel_rfl) (fun _ => by kernel_rfl) (vi (u64_wrap _)) fun a1 hF1 => ?_)
   obtain ⟨ma0, hma0⟩ : ∃ z : Int, rc lsl k 0 % 18446744073709551616 % 3 = z := ⟨_, rfl⟩
   refine wl (eM 24 (v := .int .u64 ma0) hF1 hM (by kernel_rfl) (yld_rem (rc lsl k 0 % 18446744073709551616) 3 hF1 rfl (by kernel_rfl) (by kernel_rfl) (by kernel_rfl) (by omega) ((Int.tmod_eq_emod_of_nonneg (by omega)).trans hma0)) fun a1 w hF1 hM => ?_)
   refine wl (eP 25 (v0 := .int .i64 (IntKind.i64.wrap ma0)) (v := .int .i64 ma0) hF1 (by kernel_rfl) (fun _ => by kernel_rfl) (vi (IntWalk.i64_in _ (by omega))) fun a1 hF1 => ?_)
   refine sB 1 [(26, .pointer (some ⟨bb2, 1, none⟩))] hF1 (by kernel_rfl) fun a1 hF1 => ?_
   refine wl (eL 27 6 1 (v := .int .i64 (rc lsl k 1)) hF1 hM (by kernel_rfl) rfl rfl (by kernel_rfl) (by kernel_rfl) fun a1 w hF1 hM => ?_)
   refine wl (eP 28 (v0 := .int .u64 (IntKind.u64.wrap (rc lsl k 1))) (v := .int .u64 (rc lsl k 1 % 18446744073709551616)) hF1 (by kernel_rfl) (fun _ => by kernel_rfl) (vi (u64_wrap _)) fun a1 hF1 => ?_)
   obtain ⟨ma1, hma1⟩ : ∃ z : Int, rc lsl k 1 % 18446744073709551616 % 3 = z := ⟨_, rfl⟩
   refine wl (eM 29 (v := .int .u64 ma1) hF1 hM (by kernel_rfl) (yld_rem (rc lsl k 1 % 18446744073709551616) 3 hF1 rfl (by kernel_rfl) (by kernel_rfl) (by kernel_rfl) (by omega) ((Int.tmod_eq_emod_of_nonneg (by omega)).trans hma1)) fun a1 w hF1 hM => ?_)
   refine wl (eP 30 (v0 := .int .i64 (IntKind.i64.wrap ma1)) (v := .int .i64 ma1) hF1 (by kernel_rfl) (fun _ => by kernel_rfl) (vi (IntWalk.i64_in _ (by omega))) fun a1 hF1 => ?_)
   refine wl (eP 31 (v0 := .int .i64 (IntKind.i64.wrap (1 + ma1))) (v := .int .i64 (1 + ma1)) hF1 (by kernel_rfl) (fun _ => by kernel_rfl) (wi (by omega)) fun a1 hF1 => ?_)
   refine sB 1 [(32, .pointer (some ⟨bb2, 0, none⟩))] hF1 (by kernel_rfl) fun a1 hF1 => ?_
   refine wl (sStore (i := 6) (off := 0) (cs' := #[.int .i64 ma0, .int .i64 (rc lsl k 1), .int .i64 (rc lsl k 2), .int .i64 (rc lsl k 3), .int .i64 (rc lsl k 4), .int .i64 (rc lsl k 5), .int .i64 (rc lsl k 6)]) hF1 hM (by kernel_rfl) rfl rfl (by kernel_rfl) (by kernel_rfl) rfl (by kernel_rfl) fun w hM => ?_)
   refine sB 1 [(33, .pointer (some ⟨bb2, 1, none⟩))] hF1 (by kernel_rfl) fun a1 hF1 => ?_
   refine wl (sStore (i := 6) (off := 1) (cs' := #[.int .i64 ma0, .int .i64 (1 + ma1), .int .i64 (rc lsl k 2), .int .i64 (rc lsl k 3), .int .i64 (rc lsl k 4), .int .i64 (rc lsl k 5), .int .i64 (rc lsl k 6)]) hF1 hM (by kernel_rfl) rfl rfl (by kernel_rfl) (by kernel_rfl) rfl (by kernel_rfl) fun w hM => ?_)
   refine wpList_nil ?_
   refine hK15 _ _ ?_
   refine wp_seq_k fun K16 hK16 => ?_
   refine wp_region_lit ?_
   refine sB 1 [(34, .pointer (some ⟨bb2, 3, none⟩))] hF1 (by kernel_rfl) fun a1 hF1 => ?_
   refine wl (eL 35 6 3 (v := .int .i64 (rc lsl k 3)) hF1 hM (by kernel_rfl) rfl rfl (by kernel_rfl) (by kernel_rfl) fun a1 w hF1 hM => ?_)
   refine wl (eP 36 (v0 := .int .u64 (IntKind.u64.wrap (rc lsl k 3))) (v := .int .u64 (rc lsl k 3 % 18446744073709551616)) hF1 (by kernel_rfl) (fun _ => by kernel_rfl) (vi (u64_wrap _)) fun a1 hF1 => ?_)
   obtain ⟨ma3, hma3⟩ : ∃ z : Int, rc lsl k 3 % 18446744073709551616 % 4 = z := ⟨_, rfl⟩
   refine wl (eM 37 (v := .int .u64 ma3) hF1 hM (by kernel_rfl) (yld_rem (rc lsl k 3 % 18446744073709551616) 4 hF1 rfl (by kernel_rfl) (by kernel_rfl) (by kernel_rfl) (by omega) ((Int.tmod_eq_emod_of_nonneg (by omega)).trans hma3)) fun a1 w hF1 hM => ?_)
   refine wl (eP 38 (v0 := .int .i64 (IntKind.i64.wrap ma3)) (v := .int .i64 ma3) hF1 (by kernel_rfl) (fun _ => by kernel_rfl) (vi (IntWalk.i64_in _ (by omega))) fun a1 hF1 => ?_)
   refine wl (eP 39 (v0 := .int .i64 (IntKind.i64.wrap (84 + ma3))) (v := .int .i64 (84 + ma3)) hF1 (by kernel_rfl) (fun _ => by kernel_rfl) (wi (by omega)) fun a1 hF1 => ?_)
   refine sB 1 [(40, .pointer (some ⟨bb2, 3, none⟩))] hF1 (by kernel_rfl) fun a1 hF1 => ?_
   refine wl (sStore (i := 6) (off := 3) (cs' := #[.int .i64 ma0, .int .i64 (1 + ma1), .int .i64 (rc lsl k 2), .int .i64 (84 + ma3), .int .i64 (rc lsl k 4), .int .i64 (rc lsl k 5), .int .i64 (rc lsl k 6)]) hF1 hM (by kernel_rfl) rfl rfl (by kernel_rfl) (by kernel_rfl) rfl (by kernel_rfl) fun w hM => ?_)
   refine wpList_nil ?_
   refine hK16 _ _ ?_
   refine wp_seq_k fun K17 hK17 => ?_
   cases hz7 : (liB (la ++ [[ma0, 1 + ma1, rc lsl k 2, 84 + ma3, rc lsl k 4, rc lsl k 5, rc lsl k 6]]) ([] : List (List Int)))
   ·skip
    have cap3_5 := own_cap hM (k := 5) rfl
    refine rF (by kernel_rfl) (by kernel_rfl) (fun S a w => ∃ bb5 : Nat, ∃ AA6 : Option Addr, ∃ cc6 : Nat, ∃ bb7 : Nat, Fr 73 [(2, some (.pointer (some ⟨bb1, 0, none⟩))), (3, some (.bool false)), (4, some (.slice G n_ gc)), (6, some (.pointer (some ⟨bb2, 0, none⟩))), (7, (cond (S.getD 13 false) (some (.pointer (some ⟨bb7, 0, none⟩))) none)), (8, (cond (S.getD 15 false) (some (.int .i64 2)) none)), (15, some (.slice A lsl.length c)), (16, some (.int .i64 (lsl.length : Int))), (17, some (.int .i64 (k : Int))), (41, (cond (S.getD 10 false) (some (.tuple #[.agg #[.slice none 0 0, .slice none 0 0, .int .i64 0, .slice none 0 0, .slice none 0 0], .int .i64 2])) none)), (42, (cond (S.getD 0 false) (some (.slice G n_ gc)) none)), (43, (cond (S.getD 1 false) (some (.slice G n_ gc)) none)), (44, (cond (S.getD 2 false) (some (.int .i64 (n_ : Int))) none)), (45, (cond (S.getD 3 false) (some (.slice G n_ gc)) none)), (46, (cond (S.getD 4 false) (some (.int .i64 (n_ : Int))) none)), (47, (cond (S.getD 5 false) (some (.slice G n_ n_)) none)), (48, (cond (S.getD 6 false) (some (.agg #[.int .i64 ma0, .int .i64 (1 + ma1), .int .i64 (rc lsl k 2), .int .i64 (84 + ma3), .int .i64 (rc lsl k 4), .int .i64 (rc lsl k 5), .int .i64 (rc lsl k 6)])) none)), (49, (cond (S.getD 7 false) (some (.slice (some ⟨bb5, 0, none⟩) 1 1)) none)), (50, (cond (S.getD 8 false) (some (.slice AA6 (n_ + 1) cc6)) none)), (51, (cond (S.getD 9 false) (some (.tuple #[.agg #[.slice none 0 0, .slice none 0 0, .int .i64 0, .slice none 0 0, .slice none 0 0], .int .i64 2])) none)), (52, (cond (S.getD 11 false) (some (.agg #[.slice none 0 0, .slice none 0 0, .int .i64 0, .slice none 0 0, .slice none 0 0])) none)), (53, (cond (S.getD 12 false) (some (.int .i64 2)) none))] a ∧ Mem w0.heap.size w0 [(1, some (.ro A (flatR l))), (2, some (.ro B1 (flatK [.u16, .u8, .u8, .u8, .u8] f1))), (3, some (.row bb1 27 #[.slice none 0 0, .slice none 0 0, .int .i64 0, .slice none 0 0, .slice none 0 0])), (4, some (.ro A (flatR lsl))), (5, some (.own (.slice G n_ gc) 57 7 n_ (flatR la))), (6, some (.row bb2 57 #[.int .i64 ma0, .int .i64 (1 + ma1), .int .i64 (rc lsl k 2), .int .i64 (84 + ma3), .int .i64 (rc lsl k 4), .int .i64 (rc lsl k 5), .int .i64 (rc lsl k 6)])), (9, (cond (S.getD 7 false) (some (.row bb5 57 #[.int .i64 ma0, .int .i64 (1 + ma1), .int .i64 (rc lsl k 2), .int .i64 (84 + ma3), .int .i64 (rc lsl k 4), .int .i64 (rc lsl k 5), .int .i64 (rc lsl k 6)])) none)), (10, (cond (S.getD 8 false) (some (.own (.slice AA6 (n_ + 1) cc6) 57 7 (n_ + 1) (flatR (la ++ [[ma0, 1 + ma1, rc lsl k 2, 84 + ma3, rc lsl k 4, rc lsl k 5, rc lsl k 6]])))) none)), (11, (cond (S.getD 14 false) (some (.row bb7 27 #[.slice none 0 0, .slice none 0 0, .int .i64 0, .slice none 0 0, .slice none 0 0])) (cond (S.getD 13 false) (some (.row bb7 27 #[.slice none 0 0, .slice none 0 0, .int .i64 0, .slice none 0 0, .slice none 0 0])) none)))] w) ?_ ?_ ?_
    ·exact ⟨0, none, 0, 0, (((((((((((((((((((((((Fr.nil hF1).co hF1 (i := 53) (by kernel_rfl)).co hF1 (i := 52) (by kernel_rfl)).co hF1 (i := 51) (by kernel_rfl)).co hF1 (i := 50) (by kernel_rfl)).co hF1 (i := 49) (by kernel_rfl)).co hF1 (i := 48) (by kernel_rfl)).co hF1 (i := 47) (by kernel_rfl)).co hF1 (i := 46) (by kernel_rfl)).co hF1 (i := 45) (by kernel_rfl)).co hF1 (i := 44) (by kernel_rfl)).co hF1 (i := 43) (by kernel_rfl)).co hF1 (i := 42) (by kernel_rfl)).co hF1 (i := 41) (by kernel_rfl)).co hF1 (i := 17) (by kernel_rfl)).co hF1 (i := 16) (by kernel_rfl)).co hF1 (i := 15) (by kernel_rfl)).co hF1 (i := 8) (by kernel_rfl)).co hF1 (i := 7) (by kernel_rfl)).co hF1 (i := 6) (by kernel_rfl)).co hF1 (i := 4) (by kernel_rfl)).co hF1 (i := 3) (by kernel_rfl)).co hF1 (i := 2) (by kernel_rfl)), hM.drew.sub (((((((((Sub.nil.co (k := 11) (by kernel_rfl)).co (k := 10) (by kernel_rfl)).co (k := 9) (by kernel_rfl)).co (k := 6) (by kernel_rfl)).co (k := 5) (by kernel_rfl)).co (k := 4) (by kernel_rfl)).co (k := 3) (by kernel_rfl)).co (k := 2) (by kernel_rfl)).co (k := 1) (by kernel_rfl))⟩
    ·refine stC ?_ (stC ?_ (stC ?_ (stC ?_ (stC ?_ (stC ?_ (stC ?_ (stC ?_ (stC ?_ (stC ?_ (stC ?_ (stC ?_ (stC ?_ (stC ?_ (stC ?_ (stC ?_ (trivial))))))))))))))))
     ·intro s0 s1 s2 s3 s4 s5 s6 s7 s8 s9 s10 s11 s12 s13 s14 s15 hc hi hp a w hS
      obtain rfl : s0 = false := hi
      obtain ⟨bb5, AA6, cc6, bb7, hF1, hM⟩ := hS
      refine eP 42 (v0 := .slice G n_ gc) (v := .slice G n_ gc) hF1 (by kernel_rfl) (fun _ => by kernel_rfl) rfl fun a1 hF1 => ?_
      exact ⟨bb5, AA6, cc6, bb7, ((hF1.repl 10 (by kernel_rfl)).cast (by kernel_rfl)), (hM.cast (by kernel_rfl))⟩
     ·intro s0 s1 s2 s3 s4 s5 s6 s7 s8 s9 s10 s11 s12 s13 s14 s15 hc hi hp a w hS
      obtain rfl : s1 = false := hi
      obtain ⟨bb5, AA6, cc6, bb7, hF1, hM⟩ := hS
      refine eP 43 (v0 := .slice G n_ gc) (v := .slice G n_ gc) hF1 (by kernel_rfl) (fun _ => by kernel_rfl) rfl fun a1 hF1 => ?_
      exact ⟨bb5, AA6, cc6, bb7, ((hF1.repl 11 (by kernel_rfl)).cast (by kernel_rfl)), (hM.cast (by kernel_rfl))⟩
     ·intro s0 s1 s2 s3 s4 s5 s6 s7 s8 s9 s10 s11 s12 s13 s14 s15 hc hi hp a w hS
      obtain rfl : s2 = false := hi
      obtain rfl : s1 = true := hp 1 (by kernel_rfl)
      obtain ⟨bb5, AA6, cc6, bb7, hF1, hM⟩ := hS
      refine eP 44 (v0 := .int .i64 (n_ : Int)) (v := .int .i64 (n_ : Int)) hF1 (by kernel_rfl) (fun _ => by kernel_rfl) rfl fun a1 hF1 => ?_
      exact ⟨bb5, AA6, cc6, bb7, ((hF1.repl 12 (by kernel_rfl)).cast (by kernel_rfl)), (hM.cast (by kernel_rfl))⟩
     ·intro s0 s1 s2 s3 s4 s5 s6 s7 s8 s9 s10 s11 s12 s13 s14 s15 hc hi hp a w hS
      obtain rfl : s3 = false := hi
      obtain ⟨bb5, AA6, cc6, bb7, hF1, hM⟩ := hS
      refine eP 45 (v0 := .slice G n_ gc) (v := .slice G n_ gc) hF1 (by kernel_rfl) (fun _ => by kernel_rfl) rfl fun a1 hF1 => ?_
      exact ⟨bb5, AA6, cc6, bb7, ((hF1.repl 13 (by kernel_rfl)).cast (by kernel_rfl)), (hM.cast (by kernel_rfl))⟩
     ·intro s0 s1 s2 s3 s4 s5 s6 s7 s8 s9 s10 s11 s12 s13 s14 s15 hc hi hp a w hS
      obtain rfl : s4 = false := hi
      obtain rfl : s3 = true := hp 3 (by kernel_rfl)
      obtain ⟨bb5, AA6, cc6, bb7, hF1, hM⟩ := hS
      refine eP 46 (v0 := .int .i64 (n_ : Int)) (v := .int .i64 (n_ : Int)) hF1 (by kernel_rfl) (fun _ => by kernel_rfl) rfl fun a1 hF1 => ?_
      exact ⟨bb5, AA6, cc6, bb7, ((hF1.repl 14 (by kernel_rfl)).cast (by kernel_rfl)), (hM.cast (by kernel_rfl))⟩
     ·intro s0 s1 s2 s3 s4 s5 s6 s7 s8 s9 s10 s11 s12 s13 s14 s15 hc hi hp a w hS
      obtain rfl : s5 = false := hi
      obtain rfl : s4 = true := hp 4 (by kernel_rfl)
      obtain rfl : s2 = true := hp 2 (by kernel_rfl)
      obtain rfl : s0 = true := hp 0 (by kernel_rfl)
      obtain ⟨bb5, AA6, cc6, bb7, hF1, hM⟩ := hS
      refine eM 47 (v := .slice G n_ n_) hF1 hM (by kernel_rfl) (yld_slice3 (e := 57) (len := n_) (cap := gc) (m := n_) (c := n_) (A := G) (i := (n_ : Int)) (j := (n_ : Int)) hF1 rfl (by kernel_rfl) (by kernel_rfl) (by kernel_rfl) (by kernel_rfl) (by kernel_rfl) (by kernel_rfl) rfl rfl (Nat.le_refl _) cap3_5) fun a1 w hF1 hM => ?_
      exact ⟨bb5, AA6, cc6, bb7, ((hF1.repl 15 (by kernel_rfl)).cast (by kernel_rfl)), (hM.cast (by kernel_rfl))⟩
     ·intro s0 s1 s2 s3 s4 s5 s6 s7 s8 s9 s10 s11 s12 s13 s14 s15 hc hi hp a w hS
      obtain rfl : s6 = false := hi
      obtain ⟨bb5, AA6, cc6, bb7, hF1, hM⟩ := hS
      refine eL 48 6 0 (v := .agg #[.int .i64 ma0, .int .i64 (1 + ma1), .int .i64 (rc lsl k 2), .int .i64 (84 + ma3), .int .i64 (rc lsl k 4), .int .i64 (rc lsl k 5), .int .i64 (rc lsl k 6)]) hF1 hM (by kernel_rfl) rfl rfl (by kernel_rfl) (by kernel_rfl) fun a1 w hF1 hM => ?_
      exact ⟨bb5, AA6, cc6, bb7, ((hF1.repl 16 (by kernel_rfl)).cast (by kernel_rfl)), (hM.cast (by kernel_rfl))⟩
     ·intro s0 s1 s2 s3 s4 s5 s6 s7 s8 s9 s10 s11 s12 s13 s14 s15 hc hi hp a w hS
      obtain rfl : s7 = false := hi
      obtain rfl : s6 = true := hp 6 (by kernel_rfl)
      obtain ⟨bb5, AA6, cc6, bb7, hF1, hM⟩ := hS
      refine eN 49 9 (t := 57) (fun b => .slice (some ⟨b, 0, none⟩) 1 1) #[.int .i64 ma0, .int .i64 (1 + ma1), .int .i64 (rc lsl k 2), .int .i64 (84 + ma3), .int .i64 (rc lsl k 4), .int .i64 (rc lsl k 5), .int .i64 (rc lsl k 6)] hF1 hM (by kernel_rfl) (fun _ => by kernel_rfl) fun bb5 a1 w hF1 hM => ?_
      exact ⟨bb5, AA6, cc6, bb7, ((hF1.repl 17 (by kernel_rfl)).cast (by kernel_rfl)), ((hM.repl 6 (by kernel_rfl)).cast (by kernel_rfl))⟩
     ·intro s0 s1 s2 s3 s4 s5 s6 s7 s8 s9 s10 s11 s12 s13 s14 s15 hc hi hp a w hS
      obtain rfl : s8 = false := hi
      obtain rfl : s7 = true := hp 7 (by kernel_rfl)
      obtain rfl : s5 = true := hp 5 (by kernel_rfl)
      obtain ⟨bb5, AA6, cc6, bb7, hF1, hM⟩ := hS
      refine sAppG 50 10 (e := 57) (size := 7) (bytes := 56) (z := .agg #[.int .i64 0, .int .i64 0, .int .i64 0, .int .i64 0, .int .i64 0, .int .i64 0, .int .i64 0]) (m := 1) (c := 1) (l := n_) (A := G) (xs := (flatR la)) (news := [.int .i64 ma0, .int .i64 (1 + ma1), .int .i64 (rc lsl k 2), .int .i64 (84 + ma3), .int .i64 (rc lsl k 4), .int .i64 (rc lsl k 5), .int .i64 (rc lsl k 6)]) (flatR (la ++ [[ma0, 1 + ma1, rc lsl k 2, 84 + ma3, rc lsl k 4, rc lsl k 5, rc lsl k 6]])) hF1 hM (by kernel_rfl) rfl (by kernel_rfl) (by kernel_rfl) (by kernel_rfl) rfl rfl (by rw [flatR_length (show WR 7 la from by assumption)]; omega) (roO 5 rfl) (fun h => (own_nil hM (k := 5) rfl h).1) rfl (roR 9 rfl) (by decide) (by omega) (by decide) (flatR_append la [[ma0, 1 + ma1, rc lsl k 2, 84 + ma3, rc lsl k 4, rc lsl k 5, rc lsl k 6]]).symm fun AA6 cc6 a1 w hF1 hM => ?_
      exact ⟨bb5, AA6, cc6, bb7, ((hF1.repl 18 (by kernel_rfl)).cast (by kernel_rfl)), ((hM.repl 7 (by kernel_rfl)).cast (by kernel_rfl))⟩
     ·intro s0 s1 s2 s3 s4 s5 s6 s7 s8 s9 s10 s11 s12 s13 s14 s15 hc hi hp a w hS
      obtain rfl : s9 = false := hi
      obtain rfl : s8 = true := hp 8 (by kernel_rfl)
      obtain ⟨bb5, AA6, cc6, bb7, hF1, hM⟩ := hS
      refine eM 51 (v := .tuple #[.agg #[.slice none 0 0, .slice none 0 0, .int .i64 0, .slice none 0 0, .slice none 0 0], .int .i64 2]) hF1 hM (by kernel_rfl) (yld_call (f := 13) (args := #[.slice AA6 (n_ + 1) cc6, .slice none 0 0]) hF1 (by kernel_rfl) (fun _ => by kernel_rfl) (fun w hM => fiNew_nox AA6 (la ++ [[ma0, 1 + ma1, rc lsl k 2, 84 + ma3, rc lsl k 4, rc lsl k 5, rc lsl k 6]]) cc6 none ([] : List (List Int)) 0 w (ro_of_own (hM.ok 10 _ rfl)) (WR.app (show WR 7 la from by assumption) (show WR 7 ([[ma0, 1 + ma1, rc lsl k 2, 84 + ma3, rc lsl k 4, rc lsl k 5, rc lsl k 6]] : List (List Int)) from by unfold WR; simp)) Ro.nil WR.nil (by simp; omega) rfl hz7)) fun a1 w hF1 hM => ?_
      exact ⟨bb5, AA6, cc6, bb7, ((hF1.repl 19 (by kernel_rfl)).cast (by kernel_rfl)), (hM.cast (by kernel_rfl))⟩
     ·intro s0 s1 s2 s3 s4 s5 s6 s7 s8 s9 s10 s11 s12 s13 s14 s15 hc hi hp a w hS
      obtain rfl : s10 = false := hi
      obtain rfl : s9 = true := hp 9 (by kernel_rfl)
      obtain ⟨bb5, AA6, cc6, bb7, hF1, hM⟩ := hS
      refine eP 41 (v0 := .tuple #[.agg #[.slice none 0 0, .slice none 0 0, .int .i64 0, .slice none 0 0, .slice none 0 0], .int .i64 2]) (v := .tuple #[.agg #[.slice none 0 0, .slice none 0 0, .int .i64 0, .slice none 0 0, .slice none 0 0], .int .i64 2]) hF1 (by kernel_rfl) (fun _ => by kernel_rfl) rfl fun a1 hF1 => ?_
      exact ⟨bb5, AA6, cc6, bb7, ((hF1.repl 9 (by kernel_rfl)).cast (by kernel_rfl)), (hM.cast (by kernel_rfl))⟩
     ·intro s0 s1 s2 s3 s4 s5 s6 s7 s8 s9 s10 s11 s12 s13 s14 s15 hc hi hp a w hS
      obtain rfl : s11 = false := hi
      obtain rfl : s10 = true := hp 10 (by kernel_rfl)
      obtain ⟨bb5, AA6, cc6, bb7, hF1, hM⟩ := hS
      refine eP 52 (v0 := .agg #[.slice none 0 0, .slice none 0 0, .int .i64 0, .slice none 0 0, .slice none 0 0]) (v := .agg #[.slice none 0 0, .slice none 0 0, .int .i64 0, .slice none 0 0, .slice none 0 0]) hF1 (by kernel_rfl) (fun _ => by kernel_rfl) rfl fun a1 hF1 => ?_
      exact ⟨bb5, AA6, cc6, bb7, ((hF1.repl 20 (by kernel_rfl)).cast (by kernel_rfl)), (hM.cast (by kernel_rfl))⟩
     ·intro s0 s1 s2 s3 s4 s5 s6 s7 s8 s9 s10 s11 s12 s13 s14 s15 hc hi hp a w hS
      obtain rfl : s12 = false := hi
      obtain rfl : s10 = true := hp 10 (by kernel_rfl)
      obtain ⟨bb5, AA6, cc6, bb7, hF1, hM⟩ := hS
      refine eP 53 (v0 := .int .i64 2) (v := .int .i64 2) hF1 (by kernel_rfl) (fun _ => by kernel_rfl) rfl fun a1 hF1 => ?_
      exact ⟨bb5, AA6, cc6, bb7, ((hF1.repl 21 (by kernel_rfl)).cast (by kernel_rfl)), (hM.cast (by kernel_rfl))⟩
     ·intro s0 s1 s2 s3 s4 s5 s6 s7 s8 s9 s10 s11 s12 s13 s14 s15 hc hi hp a w hS
      obtain rfl : s13 = false := hi
      obtain rfl : s14 = false := hc.f 14 13 (by kernel_rfl) rfl
      obtain ⟨bb5, AA6, cc6, bb7, hF1, hM⟩ := hS
      refine eN 7 11 (t := 27) (fun b => .pointer (some ⟨b, 0, none⟩)) #[.slice none 0 0, .slice none 0 0, .int .i64 0, .slice none 0 0, .slice none 0 0] hF1 hM (by kernel_rfl) (fun _ => by kernel_rfl) fun bb7 a1 w hF1 hM => ?_
      exact ⟨bb5, AA6, cc6, bb7, ((hF1.repl 4 (by kernel_rfl)).cast (by kernel_rfl)), ((hM.repl 8 (by kernel_rfl)).cast (by kernel_rfl))⟩
     ·intro s0 s1 s2 s3 s4 s5 s6 s7 s8 s9 s10 s11 s12 s13 s14 s15 hc hi hp a w hS
      obtain rfl : s14 = false := hi
      obtain rfl : s13 = true := hp 13 (by kernel_rfl)
      obtain rfl : s11 = true := hp 11 (by kernel_rfl)
      obtain ⟨bb5, AA6, cc6, bb7, hF1, hM⟩ := hS
      refine sStore (i := 11) (off := 0) (cs' := #[.slice none 0 0, .slice none 0 0, .int .i64 0, .slice none 0 0, .slice none 0 0]) hF1 hM (by kernel_rfl) rfl rfl (by kernel_rfl) (by kernel_rfl) rfl (by kernel_rfl) fun w hM => ?_
      exact ⟨bb5, AA6, cc6, bb7, (hF1.cast (by kernel_rfl)), ((hM.repl 8 (by kernel_rfl)).cast (by kernel_rfl))⟩
     ·intro s0 s1 s2 s3 s4 s5 s6 s7 s8 s9 s10 s11 s12 s13 s14 s15 hc hi hp a w hS
      obtain rfl : s15 = false := hi
      obtain rfl : s12 = true := hp 12 (by kernel_rfl)
      obtain ⟨bb5, AA6, cc6, bb7, hF1, hM⟩ := hS
      refine eP 8 (v0 := .int .i64 2) (v := .int .i64 2) hF1 (by kernel_rfl) (fun _ => by kernel_rfl) rfl fun a1 hF1 => ?_
      exact ⟨bb5, AA6, cc6, bb7, ((hF1.repl 5 (by kernel_rfl)).cast (by kernel_rfl)), (hM.cast (by kernel_rfl))⟩
    ·intro a1 w hS
     obtain ⟨bb5, AA6, cc6, bb7, hF1, hM⟩ := hS
     replace hF1 : Fr 73 [(2, some (.pointer (some ⟨bb1, 0, none⟩))), (3, some (.bool false)), (4, some (.slice G n_ gc)), (6, some (.pointer (some ⟨bb2, 0, none⟩))), (7, some (.pointer (some ⟨bb7, 0, none⟩))), (8, some (.int .i64 2)), (15, some (.slice A lsl.length c)), (16, some (.int .i64 (lsl.length : Int))), (17, some (.int .i64 (k : Int))), (41, some (.tuple #[.agg #[.slice none 0 0, .slice none 0 0, .int .i64 0, .slice none 0 0, .slice none 0 0], .int .i64 2])), (42, some (.slice G n_ gc)), (43, some (.slice G n_ gc)), (44, some (.int .i64 (n_ : Int))), (45, some (.slice G n_ gc)), (46, some (.int .i64 (n_ : Int))), (47, some (.slice G n_ n_)), (48, some (.agg #[.int .i64 ma0, .int .i64 (1 + ma1), .int .i64 (rc lsl k 2), .int .i64 (84 + ma3), .int .i64 (rc lsl k 4), .int .i64 (rc lsl k 5), .int .i64 (rc lsl k 6)])), (49, some (.slice (some ⟨bb5, 0, none⟩) 1 1)), (50, some (.slice AA6 (n_ + 1) cc6)), (51, some (.tuple #[.agg #[.slice none 0 0, .slice none 0 0, .int .i64 0, .slice none 0 0, .slice none 0 0], .int .i64 2])), (52, some (.agg #[.slice none 0 0, .slice none 0 0, .int .i64 0, .slice none 0 0, .slice none 0 0])), (53, some (.int .i64 2))] a1 := hF1.cast (by kernel_rfl)
     replace hM : Mem w0.heap.size w0 [(1, some (.ro A (flatR l))), (2, some (.ro B1 (flatK [.u16, .u8, .u8, .u8, .u8] f1))), (3, some (.row bb1 27 #[.slice none 0 0, .slice none 0 0, .int .i64 0, .slice none 0 0, .slice none 0 0])), (4, some (.ro A (flatR lsl))), (5, some (.own (.slice G n_ gc) 57 7 n_ (flatR la))), (6, some (.row bb2 57 #[.int .i64 ma0, .int .i64 (1 + ma1), .int .i64 (rc lsl k 2), .int .i64 (84 + ma3), .int .i64 (rc lsl k 4), .int .i64 (rc lsl k 5), .int .i64 (rc lsl k 6)])), (9, some (.row bb5 57 #[.int .i64 ma0, .int .i64 (1 + ma1), .int .i64 (rc lsl k 2), .int .i64 (84 + ma3), .int .i64 (rc lsl k 4), .int .i64 (rc lsl k 5), .int .i64 (rc lsl k 6)])), (10, some (.own (.slice AA6 (n_ + 1) cc6) 57 7 (n_ + 1) (flatR (la ++ [[ma0, 1 + ma1, rc lsl k 2, 84 + ma3, rc lsl k 4, rc lsl k 5, rc lsl k 6]])))), (11, some (.row bb7 27 #[.slice none 0 0, .slice none 0 0, .int .i64 0, .slice none 0 0, .slice none 0 0]))] w := hM.cast (by kernel_rfl)
     refine hK17 _ _ ?_
     refine wp_seq_k fun K18 hK18 => ?_
     refine wp_region_lit ?_
     refine sB 1 [(54, .int .i64 2)] hF1 (by kernel_rfl) fun a1 hF1 => ?_
     refine wl (eP 55 (v0 := .bool (decide (2 = 0))) (v := .bool false) hF1 (by kernel_rfl) (fun _ => by kernel_rfl) (bF (by omega)) fun a1 hF1 => ?_)
     refine wpList_nil ?_
     refine hK18 _ _ ?_
     refine cF hF1 (by kernel_rfl) (by kernel_rfl) ?_
     refine wp_skip ?_
     refine hK13 _ _ ?_
     refine wp_region_lit ?_
     refine wl (eP 60 (v0 := .int .i64 (IntKind.i64.wrap ((k : Int) + 1))) (v := .int .i64 ((k : Int) + 1)) hF1 (by kernel_rfl) (fun _ => by kernel_rfl) (wi (by omega)) fun a1 hF1 => ?_)
     refine sB 1 [(17, .int .i64 ((k : Int) + 1))] hF1 (by kernel_rfl) fun a1 hF1 => ?_
     refine wpList_nil ?_
     refine hK10 _ _ ⟨(k + 1, la, n_, G, gc), ⟨(((((((Fr.nil hF1).c hF1 (i := 16) rfl rfl).c hF1 (i := 15) rfl rfl).c hF1 (i := 3) rfl rfl).c hF1 (i := 2) rfl rfl).c hF1 (i := 17) rfl (vi (show ((k : Int) + 1 : Int) = ((k + 1) : Int) from by omega))).c hF1 (i := 4) rfl rfl), (hM.sub (((((Sub.nil.c (k := 5) rfl rfl).c (k := 4) rfl rfl).c (k := 3) rfl rfl).c (k := 2) rfl rfl).c (k := 1) rfl rfl)), (show ((k + 1) : Int) ≤ (lsl.length : Int) from by omega), (show liB la [] = true from by assumption), (show WR 7 la from by assumption), (show (la.length : Int) = (n_ : Int) from by omega), (show (n_ : Int) ≤ ((k + 1) : Int) from by omega)⟩, (show lsl.length - (k + 1) < lsl.length - k from by omega)⟩
   ·skip
    have cap3_5 := own_cap hM (k := 5) rfl
    obtain ⟨nl, enl⟩ : ∃ z, nwL (la ++ [[ma0, 1 + ma1, rc lsl k 2, 84 + ma3, rc lsl k 4, rc lsl k 5, rc lsl k 6]]) = z := ⟨_, rfl⟩
    obtain ⟨nm, enm⟩ : ∃ z, nwM ([] : List (List Int)) = z := ⟨_, rfl⟩
    have hnm : WR 3 nm := enm ▸ nwM_wr
    have lnl : (la ++ [[ma0, 1 + ma1, rc lsl k 2, 84 + ma3, rc lsl k 4, rc lsl k 5, rc lsl k 6]]).length = nl.length := by rw [← enl]; exact nwL_len.symm
    have lnm : (([] : List (List Int)) : List (List Int)).length = nm.length := by rw [← enm]; exact nwM_len.symm
    have fnl : flE (la ++ [[ma0, 1 + ma1, rc lsl k 2, 84 + ma3, rc lsl k 4, rc lsl k 5, rc lsl k 6]]) ([] : List (List Int)) (-1000) nl nm = 0 := by rw [← enl, ← enm]; exact fl_new hz7
    have gnl := fl_len (fl_p fnl)
    refine rF (by kernel_rfl) (by kernel_rfl) (fun S a w => ∃ bb8 : Nat, ∃ AA9 : Option Addr, ∃ cc9 : Nat, ∃ AA10 : Option Addr, ∃ cc10 : Nat, ∃ AA11 : Option Addr, ∃ cc11 : Nat, ∃ bb12 : Nat, Fr 73 [(2, some (.pointer (some ⟨bb1, 0, none⟩))), (3, some (.bool false)), (4, some (.slice G n_ gc)), (6, some (.pointer (some ⟨bb2, 0, none⟩))), (7, (cond (S.getD 13 false) (some (.pointer (some ⟨bb12, 0, none⟩))) none)), (8, (cond (S.getD 15 false) (some (.int .i64 0)) none)), (15, some (.slice A lsl.length c)), (16, some (.int .i64 (lsl.length : Int))), (17, some (.int .i64 (k : Int))), (41, (cond (S.getD 10 false) (some (.tuple #[.agg #[.slice AA9 (n_ + 1) cc9, .slice none 0 0, .int .i64 (-1000), .slice AA10 nl.length cc10, .slice AA11 nm.length cc11], .int .i64 0])) none)), (42, (cond (S.getD 0 false) (some (.slice G n_ gc)) none)), (43, (cond (S.getD 1 false) (some (.slice G n_ gc)) none)), (44, (cond (S.getD 2 false) (some (.int .i64 (n_ : Int))) none)), (45, (cond (S.getD 3 false) (some (.slice G n_ gc)) none)), (46, (cond (S.getD 4 false) (some (.int .i64 (n_ : Int))) none)), (47, (cond (S.getD 5 false) (some (.slice G n_ n_)) none)), (48, (cond (S.getD 6 false) (some (.agg #[.int .i64 ma0, .int .i64 (1 + ma1), .int .i64 (rc lsl k 2), .int .i64 (84 + ma3), .int .i64 (rc lsl k 4), .int .i64 (rc lsl k 5), .int .i64 (rc lsl k 6)])) none)), (49, (cond (S.getD 7 false) (some (.slice (some ⟨bb8, 0, none⟩) 1 1)) none)), (50, (cond (S.getD 8 false) (some (.slice AA9 (n_ + 1) cc9)) none)), (51, (cond (S.getD 9 false) (some (.tuple #[.agg #[.slice AA9 (n_ + 1) cc9, .slice none 0 0, .int .i64 (-1000), .slice AA10 nl.length cc10, .slice AA11 nm.length cc11], .int .i64 0])) none)), (52, (cond (S.getD 11 false) (some (.agg #[.slice AA9 (n_ + 1) cc9, .slice none 0 0, .int .i64 (-1000), .slice AA10 nl.length cc10, .slice AA11 nm.length cc11])) none)), (53, (cond (S.getD 12 false) (some (.int .i64 0)) none))] a ∧ Mem w0.heap.size w0 [(1, some (.ro A (flatR l))), (2, some (.ro B1 (flatK [.u16, .u8, .u8, .u8, .u8] f1))), (3, some (.row bb1 27 #[.slice none 0 0, .slice none 0 0, .int .i64 0, .slice none 0 0, .slice none 0 0])), (4, some (.ro A (flatR lsl))), (5, some (.own (.slice G n_ gc) 57 7 n_ (flatR la))), (6, some (.row bb2 57 #[.int .i64 ma0, .int .i64 (1 + ma1), .int .i64 (rc lsl k 2), .int .i64 (84 + ma3), .int .i64 (rc lsl k 4), .int .i64 (rc lsl k 5), .int .i64 (rc lsl k 6)])), (12, (cond (S.getD 7 false) (some (.row bb8 57 #[.int .i64 ma0, .int .i64 (1 + ma1), .int .i64 (rc lsl k 2), .int .i64 (84 + ma3), .int .i64 (rc lsl k 4), .int .i64 (rc lsl k 5), .int .i64 (rc lsl k 6)])) none)), (13, (cond (S.getD 8 false) (some (.own (.slice AA9 (n_ + 1) cc9) 57 7 (n_ + 1) (flatR (la ++ [[ma0, 1 + ma1, rc lsl k 2, 84 + ma3, rc lsl k 4, rc lsl k 5, rc lsl k 6]])))) none)), (14, (cond (S.getD 9 false) (some (.ro AA10 (nl.map (Value.int .i64)))) none)), (15, (cond (S.getD 9 false) (some (.ro AA11 (flatR nm))) none)), (16, (cond (S.getD 14 false) (some (.row bb12 27 #[.slice AA9 (n_ + 1) cc9, .slice none 0 0, .int .i64 (-1000), .slice AA10 nl.length cc10, .slice AA11 nm.length cc11])) (cond (S.getD 13 false) (some (.row bb12 27 #[.slice none 0 0, .slice none 0 0, .int .i64 0, .slice none 0 0, .slice none 0 0])) none)))] w) ?_ ?_ ?_
    ·exact ⟨0, none, 0, none, 0, none, 0, 0, (((((((((((((((((((((((Fr.nil hF1).co hF1 (i := 53) (by kernel_rfl)).co hF1 (i := 52) (by kernel_rfl)).co hF1 (i := 51) (by kernel_rfl)).co hF1 (i := 50) (by kernel_rfl)).co hF1 (i := 49) (by kernel_rfl)).co hF1 (i := 48) (by kernel_rfl)).co hF1 (i := 47) (by kernel_rfl)).co hF1 (i := 46) (by kernel_rfl)).co hF1 (i := 45) (by kernel_rfl)).co hF1 (i := 44) (by kernel_rfl)).co hF1 (i := 43) (by kernel_rfl)).co hF1 (i := 42) (by kernel_rfl)).co hF1 (i := 41) (by kernel_rfl)).co hF1 (i := 17) (by kernel_rfl)).co hF1 (i := 16) (by kernel_rfl)).co hF1 (i := 15) (by kernel_rfl)).co hF1 (i := 8) (by kernel_rfl)).co hF1 (i := 7) (by kernel_rfl)).co hF1 (i := 6) (by kernel_rfl)).co hF1 (i := 4) (by kernel_rfl)).co hF1 (i := 3) (by kernel_rfl)).co hF1 (i := 2) (by kernel_rfl)), hM.drew.sub (((((((((((Sub.nil.co (k := 16) (by kernel_rfl)).co (k := 15) (by kernel_rfl)).co (k := 14) (by kernel_rfl)).co (k := 13) (by kernel_rfl)).co (k := 12) (by kernel_rfl)).co (k := 6) (by kernel_rfl)).co (k := 5) (by kernel_rfl)).co (k := 4) (by kernel_rfl)).co (k := 3) (by kernel_rfl)).co (k := 2) (by kernel_rfl)).co (k := 1) (by kernel_rfl))⟩
    ·refine stC ?_ (stC ?_ (stC ?_ (stC ?_ (stC ?_ (stC ?_ (stC ?_ (stC ?_ (stC ?_ (stC ?_ (stC ?_ (stC ?_ (stC ?_ (stC ?_ (stC ?_ (stC ?_ (trivial))))))))))))))))
     ·intro s0 s1 s2 s3 s4 s5 s6 s7 s8 s9 s10 s11 s12 s13 s14 s15 hc hi hp a w hS
      obtain rfl : s0 = false := hi
      obtain ⟨bb8, AA9, cc9, AA10, cc10, AA11, cc11, bb12, hF1, hM⟩ := hS
      refine eP 42 (v0 := .slice G n_ gc) (v := .slice G n_ gc) hF1 (by kernel_rfl) (fun _ => by kernel_rfl) rfl fun a1 hF1 => ?_
      exact ⟨bb8, AA9, cc9, AA10, cc10, AA11, cc11, bb12, ((hF1.repl 10 (by kernel_rfl)).cast (by kernel_rfl)), (hM.cast (by kernel_rfl))⟩
     ·intro s0 s1 s2 s3 s4 s5 s6 s7 s8 s9 s10 s11 s12 s13 s14 s15 hc hi hp a w hS
      obtain rfl : s1 = false := hi
      obtain ⟨bb8, AA9, cc9, AA10, cc10, AA11, cc11, bb12, hF1, hM⟩ := hS
      refine eP 43 (v0 := .slice G n_ gc) (v := .slice G n_ gc) hF1 (by kernel_rfl) (fun _ => by kernel_rfl) rfl fun a1 hF1 => ?_
      exact ⟨bb8, AA9, cc9, AA10, cc10, AA11, cc11, bb12, ((hF1.repl 11 (by kernel_rfl)).cast (by kernel_rfl)), (hM.cast (by kernel_rfl))⟩
     ·intro s0 s1 s2 s3 s4 s5 s6 s7 s8 s9 s10 s11 s12 s13 s14 s15 hc hi hp a w hS
      obtain rfl : s2 = false := hi
      obtain rfl : s1 = true := hp 1 (by kernel_rfl)
      obtain ⟨bb8, AA9, cc9, AA10, cc10, AA11, cc11, bb12, hF1, hM⟩ := hS
      refine eP 44 (v0 := .int .i64 (n_ : Int)) (v := .int .i64 (n_ : Int)) hF1 (by kernel_rfl) (fun _ => by kernel_rfl) rfl fun a1 hF1 => ?_
      exact ⟨bb8, AA9, cc9, AA10, cc10, AA11, cc11, bb12, ((hF1.repl 12 (by kernel_rfl)).cast (by kernel_rfl)), (hM.cast (by kernel_rfl))⟩
     ·intro s0 s1 s2 s3 s4 s5 s6 s7 s8 s9 s10 s11 s12 s13 s14 s15 hc hi hp a w hS
      obtain rfl : s3 = false := hi
      obtain ⟨bb8, AA9, cc9, AA10, cc10, AA11, cc11, bb12, hF1, hM⟩ := hS
      refine eP 45 (v0 := .slice G n_ gc) (v := .slice G n_ gc) hF1 (by kernel_rfl) (fun _ => by kernel_rfl) rfl fun a1 hF1 => ?_
      exact ⟨bb8, AA9, cc9, AA10, cc10, AA11, cc11, bb12, ((hF1.repl 13 (by kernel_rfl)).cast (by kernel_rfl)), (hM.cast (by kernel_rfl))⟩
     ·intro s0 s1 s2 s3 s4 s5 s6 s7 s8 s9 s10 s11 s12 s13 s14 s15 hc hi hp a w hS
      obtain rfl : s4 = false := hi
      obtain rfl : s3 = true := hp 3 (by kernel_rfl)
      obtain ⟨bb8, AA9, cc9, AA10, cc10, AA11, cc11, bb12, hF1, hM⟩ := hS
      refine eP 46 (v0 := .int .i64 (n_ : Int)) (v := .int .i64 (n_ : Int)) hF1 (by kernel_rfl) (fun _ => by kernel_rfl) rfl fun a1 hF1 => ?_
      exact ⟨bb8, AA9, cc9, AA10, cc10, AA11, cc11, bb12, ((hF1.repl 14 (by kernel_rfl)).cast (by kernel_rfl)), (hM.cast (by kernel_rfl))⟩
     ·intro s0 s1 s2 s3 s4 s5 s6 s7 s8 s9 s10 s11 s12 s13 s14 s15 hc hi hp a w hS
      obtain rfl : s5 = false := hi
      obtain rfl : s4 = true := hp 4 (by kernel_rfl)
      obtain rfl : s2 = true := hp 2 (by kernel_rfl)
      obtain rfl : s0 = true := hp 0 (by kernel_rfl)
      obtain ⟨bb8, AA9, cc9, AA10, cc10, AA11, cc11, bb12, hF1, hM⟩ := hS
      refine eM 47 (v := .slice G n_ n_) hF1 hM (by kernel_rfl) (yld_slice3 (e := 57) (len := n_) (cap := gc) (m := n_) (c := n_) (A := G) (i := (n_ : Int)) (j := (n_ : Int)) hF1 rfl (by kernel_rfl) (by kernel_rfl) (by kernel_rfl) (by kernel_rfl) (by kernel_rfl) (by kernel_rfl) rfl rfl (Nat.le_refl _) cap3_5) fun a1 w hF1 hM => ?_
      exact ⟨bb8, AA9, cc9, AA10, cc10, AA11, cc11, bb12, ((hF1.repl 15 (by kernel_rfl)).cast (by kernel_rfl)), (hM.cast (by kernel_rfl))⟩
     ·intro s0 s1 s2 s3 s4 s5 s6 s7 s8 s9 s10 s11 s12 s13 s14 s15 hc hi hp a w hS
      obtain rfl : s6 = false := hi
      obtain ⟨bb8, AA9, cc9, AA10, cc10, AA11, cc11, bb12, hF1, hM⟩ := hS
      refine eL 48 6 0 (v := .agg #[.int .i64 ma0, .int .i64 (1 + ma1), .int .i64 (rc lsl k 2), .int .i64 (84 + ma3), .int .i64 (rc lsl k 4), .int .i64 (rc lsl k 5), .int .i64 (rc lsl k 6)]) hF1 hM (by kernel_rfl) rfl rfl (by kernel_rfl) (by kernel_rfl) fun a1 w hF1 hM => ?_
      exact ⟨bb8, AA9, cc9, AA10, cc10, AA11, cc11, bb12, ((hF1.repl 16 (by kernel_rfl)).cast (by kernel_rfl)), (hM.cast (by kernel_rfl))⟩
     ·intro s0 s1 s2 s3 s4 s5 s6 s7 s8 s9 s10 s11 s12 s13 s14 s15 hc hi hp a w hS
      obtain rfl : s7 = false := hi
      obtain rfl : s6 = true := hp 6 (by kernel_rfl)
      obtain ⟨bb8, AA9, cc9, AA10, cc10, AA11, cc11, bb12, hF1, hM⟩ := hS
      refine eN 49 12 (t := 57) (fun b => .slice (some ⟨b, 0, none⟩) 1 1) #[.int .i64 ma0, .int .i64 (1 + ma1), .int .i64 (rc lsl k 2), .int .i64 (84 + ma3), .int .i64 (rc lsl k 4), .int .i64 (rc lsl k 5), .int .i64 (rc lsl k 6)] hF1 hM (by kernel_rfl) (fun _ => by kernel_rfl) fun bb8 a1 w hF1 hM => ?_
      exact ⟨bb8, AA9, cc9, AA10, cc10, AA11, cc11, bb12, ((hF1.repl 17 (by kernel_rfl)).cast (by kernel_rfl)), ((hM.repl 6 (by kernel_rfl)).cast (by kernel_rfl))⟩
     ·intro s0 s1 s2 s3 s4 s5 s6 s7 s8 s9 s10 s11 s12 s13 s14 s15 hc hi hp a w hS
      obtain rfl : s8 = false := hi
      obtain rfl : s7 = true := hp 7 (by kernel_rfl)
      obtain rfl : s5 = true := hp 5 (by kernel_rfl)
      obtain rfl : s9 = false := hc.f 9 8 (by kernel_rfl) rfl
      obtain rfl : s10 = false := hc.f 10 9 (by kernel_rfl) rfl
      obtain rfl : s11 = false := hc.f 11 10 (by kernel_rfl) rfl
      obtain rfl : s14 = false := hc.f 14 8 (by kernel_rfl) rfl
      obtain ⟨bb8, AA9, cc9, AA10, cc10, AA11, cc11, bb12, hF1, hM⟩ := hS
      refine sAppG 50 13 (e := 57) (size := 7) (bytes := 56) (z := .agg #[.int .i64 0, .int .i64 0, .int .i64 0, .int .i64 0, .int .i64 0, .int .i64 0, .int .i64 0]) (m := 1) (c := 1) (l := n_) (A := G) (xs := (flatR la)) (news := [.int .i64 ma0, .int .i64 (1 + ma1), .int .i64 (rc lsl k 2), .int .i64 (84 + ma3), .int .i64 (rc lsl k 4), .int .i64 (rc lsl k 5), .int .i64 (rc lsl k 6)]) (flatR (la ++ [[ma0, 1 + ma1, rc lsl k 2, 84 + ma3, rc lsl k 4, rc lsl k 5, rc lsl k 6]])) hF1 hM (by kernel_rfl) rfl (by kernel_rfl) (by kernel_rfl) (by kernel_rfl) rfl rfl (by rw [flatR_length (show WR 7 la from by assumption)]; omega) (roO 5 rfl) (fun h => (own_nil hM (k := 5) rfl h).1) rfl (roR 12 rfl) (by decide) (by omega) (by decide) (flatR_append la [[ma0, 1 + ma1, rc lsl k 2, 84 + ma3, rc lsl k 4, rc lsl k 5, rc lsl k 6]]).symm fun AA9 cc9 a1 w hF1 hM => ?_
      exact ⟨bb8, AA9, cc9, AA10, cc10, AA11, cc11, bb12, ((hF1.repl 18 (by kernel_rfl)).cast (by kernel_rfl)), ((hM.repl 7 (by kernel_rfl)).cast (by kernel_rfl))⟩
     ·intro s0 s1 s2 s3 s4 s5 s6 s7 s8 s9 s10 s11 s12 s13 s14 s15 hc hi hp a w hS
      obtain rfl : s9 = false := hi
      obtain rfl : s8 = true := hp 8 (by kernel_rfl)
      obtain rfl : s10 = false := hc.f 10 9 (by kernel_rfl) rfl
      obtain rfl : s11 = false := hc.f 11 10 (by kernel_rfl) rfl
      obtain rfl : s14 = false := hc.f 14 9 (by kernel_rfl) rfl
      obtain ⟨bb8, AA9, cc9, AA10, cc10, AA11, cc11, bb12, hF1, hM⟩ := hS
      refine sRo2 14 15 (f := 13) (args := #[.slice AA9 (n_ + 1) cc9, .slice none 0 0]) (mk := (fun x y => .tuple #[.agg #[.slice AA9 (n_ + 1) cc9, .slice none 0 0, .int .i64 (-1000), x, y], .int .i64 0])) (A3 := none) (A4 := none) (n3 := nl.length) (n4 := nm.length) (xs := (nl.map (Value.int .i64))) (ys := (flatR nm)) hF1 hM (by kernel_rfl) rfl (by decide) (by kernel_rfl) (fun _ => by kernel_rfl) (fiNew_okx AA9 (la ++ [[ma0, 1 + ma1, rc lsl k 2, 84 + ma3, rc lsl k 4, rc lsl k 5, rc lsl k 6]]) cc9 none ([] : List (List Int)) 0 w (ro_of_own (hM.ok 13 _ rfl)) (WR.app (show WR 7 la from by assumption) (show WR 7 ([[ma0, 1 + ma1, rc lsl k 2, 84 + ma3, rc lsl k 4, rc lsl k 5, rc lsl k 6]] : List (List Int)) from by unfold WR; simp)) Ro.nil WR.nil (by simp; omega) rfl hz7 enl enm lnl lnm) (.inr Free.none_) (.inr Free.none_) fun AA10 cc10 AA11 cc11 a1 w hF1 hM => ?_
      exact ⟨bb8, AA9, cc9, AA10, cc10, AA11, cc11, bb12, ((hF1.repl 19 (by kernel_rfl)).cast (by kernel_rfl)), (((hM.repl 10 (by kernel_rfl)).repl 8 (by kernel_rfl)).cast (by kernel_rfl))⟩
     ·intro s0 s1 s2 s3 s4 s5 s6 s7 s8 s9 s10 s11 s12 s13 s14 s15 hc hi hp a w hS
      obtain rfl : s10 = false := hi
      obtain rfl : s9 = true := hp 9 (by kernel_rfl)
      obtain rfl : s8 = true := hc 9 8 (by kernel_rfl) rfl
      obtain ⟨bb8, AA9, cc9, AA10, cc10, AA11, cc11, bb12, hF1, hM⟩ := hS
      refine eP 41 (v0 := .tuple #[.agg #[.slice AA9 (n_ + 1) cc9, .slice none 0 0, .int .i64 (-1000), .slice AA10 nl.length cc10, .slice AA11 nm.length cc11], .int .i64 0]) (v := .tuple #[.agg #[.slice AA9 (n_ + 1) cc9, .slice none 0 0, .int .i64 (-1000), .slice AA10 nl.length cc10, .slice AA11 nm.length cc11], .int .i64 0]) hF1 (by kernel_rfl) (fun _ => by kernel_rfl) rfl fun a1 hF1 => ?_
      exact ⟨bb8, AA9, cc9, AA10, cc10, AA11, cc11, bb12, ((hF1.repl 9 (by kernel_rfl)).cast (by kernel_rfl)), (hM.cast (by kernel_rfl))⟩
     ·intro s0 s1 s2 s3 s4 s5 s6 s7 s8 s9 s10 s11 s12 s13 s14 s15 hc hi hp a w hS
      obtain rfl : s11 = false := hi
      obtain rfl : s10 = true := hp 10 (by kernel_rfl)
      obtain rfl : s9 = true := hc 10 9 (by kernel_rfl) rfl
      obtain rfl : s8 = true := hc 9 8 (by kernel_rfl) rfl
      obtain ⟨bb8, AA9, cc9, AA10, cc10, AA11, cc11, bb12, hF1, hM⟩ := hS
      refine eP 52 (v0 := .agg #[.slice AA9 (n_ + 1) cc9, .slice none 0 0, .int .i64 (-1000), .slice AA10 nl.length cc10, .slice AA11 nm.length cc11]) (v := .agg #[.slice AA9 (n_ + 1) cc9, .slice none 0 0, .int .i64 (-1000), .slice AA10 nl.length cc10, .slice AA11 nm.length cc11]) hF1 (by kernel_rfl) (fun _ => by kernel_rfl) rfl fun a1 hF1 => ?_
      exact ⟨bb8, AA9, cc9, AA10, cc10, AA11, cc11, bb12, ((hF1.repl 20 (by kernel_rfl)).cast (by kernel_rfl)), (hM.cast (by kernel_rfl))⟩
     ·intro s0 s1 s2 s3 s4 s5 s6 s7 s8 s9 s10 s11 s12 s13 s14 s15 hc hi hp a w hS
      obtain rfl : s12 = false := hi
      obtain rfl : s10 = true := hp 10 (by kernel_rfl)
      obtain rfl : s9 = true := hc 10 9 (by kernel_rfl) rfl
      obtain rfl : s8 = true := hc 9 8 (by kernel_rfl) rfl
      obtain ⟨bb8, AA9, cc9, AA10, cc10, AA11, cc11, bb12, hF1, hM⟩ := hS
      refine eP 53 (v0 := .int .i64 0) (v := .int .i64 0) hF1 (by kernel_rfl) (fun _ => by kernel_rfl) rfl fun a1 hF1 => ?_
      exact ⟨bb8, AA9, cc9, AA10, cc10, AA11, cc11, bb12, ((hF1.repl 21 (by kernel_rfl)).cast (by kernel_rfl)), (hM.cast (by kernel_rfl))⟩
     ·intro s0 s1 s2 s3 s4 s5 s6 s7 s8 s9 s10 s11 s12 s13 s14 s15 hc hi hp a w hS
      obtain rfl : s13 = false := hi
      obtain rfl : s14 = false := hc.f 14 13 (by kernel_rfl) rfl
      obtain ⟨bb8, AA9, cc9, AA10, cc10, AA11, cc11, bb12, hF1, hM⟩ := hS
      refine eN 7 16 (t := 27) (fun b => .pointer (some ⟨b, 0, none⟩)) #[.slice none 0 0, .slice none 0 0, .int .i64 0, .slice none 0 0, .slice none 0 0] hF1 hM (by kernel_rfl) (fun _ => by kernel_rfl) fun bb12 a1 w hF1 hM => ?_
      exact ⟨bb8, AA9, cc9, AA10, cc10, AA11, cc11, bb12, ((hF1.repl 4 (by kernel_rfl)).cast (by kernel_rfl)), ((hM.repl 10 (by kernel_rfl)).cast (by kernel_rfl))⟩
     ·intro s0 s1 s2 s3 s4 s5 s6 s7 s8 s9 s10 s11 s12 s13 s14 s15 hc hi hp a w hS
      obtain rfl : s14 = false := hi
      obtain rfl : s13 = true := hp 13 (by kernel_rfl)
      obtain rfl : s11 = true := hp 11 (by kernel_rfl)
      obtain rfl : s9 = true := hp 9 (by kernel_rfl)
      obtain rfl : s8 = true := hp 8 (by kernel_rfl)
      obtain ⟨bb8, AA9, cc9, AA10, cc10, AA11, cc11, bb12, hF1, hM⟩ := hS
      refine sStore (i := 16) (off := 0) (cs' := #[.slice AA9 (n_ + 1) cc9, .slice none 0 0, .int .i64 (-1000), .slice AA10 nl.length cc10, .slice AA11 nm.length cc11]) hF1 hM (by kernel_rfl) rfl rfl (by kernel_rfl) (by kernel_rfl) rfl (by kernel_rfl) fun w hM => ?_
      exact ⟨bb8, AA9, cc9, AA10, cc10, AA11, cc11, bb12, (hF1.cast (by kernel_rfl)), ((hM.repl 10 (by kernel_rfl)).cast (by kernel_rfl))⟩
     ·intro s0 s1 s2 s3 s4 s5 s6 s7 s8 s9 s10 s11 s12 s13 s14 s15 hc hi hp a w hS
      obtain rfl : s15 = false := hi
      obtain rfl : s12 = true := hp 12 (by kernel_rfl)
      obtain ⟨bb8, AA9, cc9, AA10, cc10, AA11, cc11, bb12, hF1, hM⟩ := hS
      refine eP 8 (v0 := .int .i64 0) (v := .int .i64 0) hF1 (by kernel_rfl) (fun _ => by kernel_rfl) rfl fun a1 hF1 => ?_
      exact ⟨bb8, AA9, cc9, AA10, cc10, AA11, cc11, bb12, ((hF1.repl 5 (by kernel_rfl)).cast (by kernel_rfl)), (hM.cast (by kernel_rfl))⟩
    ·intro a1 w hS
     obtain ⟨bb8, AA9, cc9, AA10, cc10, AA11, cc11, bb12, hF1, hM⟩ := hS
     replace hF1 : Fr 73 [(2, some (.pointer (some ⟨bb1, 0, none⟩))), (3, some (.bool false)), (4, some (.slice G n_ gc)), (6, some (.pointer (some ⟨bb2, 0, none⟩))), (7, some (.pointer (some ⟨bb12, 0, none⟩))), (8, some (.int .i64 0)), (15, some (.slice A lsl.length c)), (16, some (.int .i64 (lsl.length : Int))), (17, some (.int .i64 (k : Int))), (41, some (.tuple #[.agg #[.slice AA9 (n_ + 1) cc9, .slice none 0 0, .int .i64 (-1000), .slice AA10 nl.length cc10, .slice AA11 nm.length cc11], .int .i64 0])), (42, some (.slice G n_ gc)), (43, some (.slice G n_ gc)), (44, some (.int .i64 (n_ : Int))), (45, some (.slice G n_ gc)), (46, some (.int .i64 (n_ : Int))), (47, some (.slice G n_ n_)), (48, some (.agg #[.int .i64 ma0, .int .i64 (1 + ma1), .int .i64 (rc lsl k 2), .int .i64 (84 + ma3), .int .i64 (rc lsl k 4), .int .i64 (rc lsl k 5), .int .i64 (rc lsl k 6)])), (49, some (.slice (some ⟨bb8, 0, none⟩) 1 1)), (50, some (.slice AA9 (n_ + 1) cc9)), (51, some (.tuple #[.agg #[.slice AA9 (n_ + 1) cc9, .slice none 0 0, .int .i64 (-1000), .slice AA10 nl.length cc10, .slice AA11 nm.length cc11], .int .i64 0])), (52, some (.agg #[.slice AA9 (n_ + 1) cc9, .slice none 0 0, .int .i64 (-1000), .slice AA10 nl.length cc10, .slice AA11 nm.length cc11])), (53, some (.int .i64 0))] a1 := hF1.cast (by kernel_rfl)
     replace hM : Mem w0.heap.size w0 [(1, some (.ro A (flatR l))), (2, some (.ro B1 (flatK [.u16, .u8, .u8, .u8, .u8] f1))), (3, some (.row bb1 27 #[.slice none 0 0, .slice none 0 0, .int .i64 0, .slice none 0 0, .slice none 0 0])), (4, some (.ro A (flatR lsl))), (5, some (.own (.slice G n_ gc) 57 7 n_ (flatR la))), (6, some (.row bb2 57 #[.int .i64 ma0, .int .i64 (1 + ma1), .int .i64 (rc lsl k 2), .int .i64 (84 + ma3), .int .i64 (rc lsl k 4), .int .i64 (rc lsl k 5), .int .i64 (rc lsl k 6)])), (12, some (.row bb8 57 #[.int .i64 ma0, .int .i64 (1 + ma1), .int .i64 (rc lsl k 2), .int .i64 (84 + ma3), .int .i64 (rc lsl k 4), .int .i64 (rc lsl k 5), .int .i64 (rc lsl k 6)])), (13, some (.own (.slice AA9 (n_ + 1) cc9) 57 7 (n_ + 1) (flatR (la ++ [[ma0, 1 + ma1, rc lsl k 2, 84 + ma3, rc lsl k 4, rc lsl k 5, rc lsl k 6]])))), (14, some (.ro AA10 (nl.map (Value.int .i64)))), (15, some (.ro AA11 (flatR nm))), (16, some (.row bb12 27 #[.slice AA9 (n_ + 1) cc9, .slice none 0 0, .int .i64 (-1000), .slice AA10 nl.length cc10, .slice AA11 nm.length cc11]))] w := hM.cast (by kernel_rfl)
     refine hK17 _ _ ?_
     refine wp_seq_k fun K19 hK19 => ?_
     refine wp_region_lit ?_
     refine sB 1 [(54, .int .i64 0)] hF1 (by kernel_rfl) fun a1 hF1 => ?_
     refine wl (eP 55 (v0 := .bool (decide (0 = 0))) (v := .bool true) hF1 (by kernel_rfl) (fun _ => by kernel_rfl) (bT (by omega)) fun a1 hF1 => ?_)
     refine wpList_nil ?_
     refine hK19 _ _ ?_
     refine cT hF1 (by kernel_rfl) (by kernel_rfl) ?_
     refine wp_region_lit ?_
     refine sB 1 [(56, .slice G n_ gc)] hF1 (by kernel_rfl) fun a1 hF1 => ?_
     refine wl (eL 57 6 0 (v := .agg #[.int .i64 ma0, .int .i64 (1 + ma1), .int .i64 (rc lsl k 2), .int .i64 (84 + ma3), .int .i64 (rc lsl k 4), .int .i64 (rc lsl k 5), .int .i64 (rc lsl k 6)]) hF1 hM (by kernel_rfl) rfl rfl (by kernel_rfl) (by kernel_rfl) fun a1 w hF1 hM => ?_)
     refine wl (eN 58 17 (t := 57) (fun b => .slice (some ⟨b, 0, none⟩) 1 1) #[.int .i64 ma0, .int .i64 (1 + ma1), .int .i64 (rc lsl k 2), .int .i64 (84 + ma3), .int .i64 (rc lsl k 4), .int .i64 (rc lsl k 5), .int .i64 (rc lsl k 6)] hF1 hM (by kernel_rfl) (fun _ => by kernel_rfl) fun bb13 a1 w hF1 hM => ?_)
     refine wl (sApp 59 5 (e := 57) (size := 7) (bytes := 56) (z := .agg #[.int .i64 0, .int .i64 0, .int .i64 0, .int .i64 0, .int .i64 0, .int .i64 0, .int .i64 0]) (m := 1) (c := 1) (l := n_) (cap := gc) (A := G) (news := [.int .i64 ma0, .int .i64 (1 + ma1), .int .i64 (rc lsl k 2), .int .i64 (84 + ma3), .int .i64 (rc lsl k 4), .int .i64 (rc lsl k 5), .int .i64 (rc lsl k 6)]) (flatR (la ++ [[ma0, 1 + ma1, rc lsl k 2, 84 + ma3, rc lsl k 4, rc lsl k 5, rc lsl k 6]])) hF1 hM (by kernel_rfl) rfl (by kernel_rfl) (by kernel_rfl) (by kernel_rfl) rfl rfl rfl rfl (roR 17 rfl) (by simp [Value.oneCell']) (by omega) (by decide) (flatR_append la [[ma0, 1 + ma1, rc lsl k 2, 84 + ma3, rc lsl k 4, rc lsl k 5, rc lsl k 6]]).symm fun AA14 cc14 a1 w hF1 hM => ?_)
     refine sB 1 [(4, .slice AA14 (n_ + 1) cc14)] hF1 (by kernel_rfl) fun a1 hF1 => ?_
     refine wpList_nil ?_
     refine hK13 _ _ ?_
     refine wp_region_lit ?_
     refine wl (eP 60 (v0 := .int .i64 (IntKind.i64.wrap ((k : Int) + 1))) (v := .int .i64 ((k : Int) + 1)) hF1 (by kernel_rfl) (fun _ => by kernel_rfl) (wi (by omega)) fun a1 hF1 => ?_)
     refine sB 1 [(17, .int .i64 ((k : Int) + 1))] hF1 (by kernel_rfl) fun a1 hF1 => ?_
     refine wpList_nil ?_
     refine hK10 _ _ ⟨(k + 1, la ++ [[ma0, 1 + ma1, rc lsl k 2, 84 + ma3, rc lsl k 4, rc lsl k 5, rc lsl k 6]], n_ + 1, AA14, cc14), ⟨(((((((Fr.nil hF1).c hF1 (i := 16) rfl rfl).c hF1 (i := 15) rfl rfl).c hF1 (i := 3) rfl rfl).c hF1 (i := 2) rfl rfl).c hF1 (i := 17) rfl (vi (show ((k : Int) + 1 : Int) = ((k + 1) : Int) from by omega))).c hF1 (i := 4) rfl rfl), (hM.sub (((((Sub.nil.c (k := 5) rfl rfl).c (k := 4) rfl rfl).c (k := 3) rfl rfl).c (k := 2) rfl rfl).c (k := 1) rfl rfl)), (show ((k + 1) : Int) ≤ (lsl.length : Int) from by omega), (show liB (la ++ [[ma0, 1 + ma1, rc lsl k 2, 84 + ma3, rc lsl k 4, rc lsl k 5, rc lsl k 6]]) [] = true from by exact hz7), (show WR 7 (la ++ [[ma0, 1 + ma1, rc lsl k 2, 84 + ma3, rc lsl k 4, rc lsl k 5, rc lsl k 6]]) from by exact WR.app (by assumption) (by unfold WR; simp)), (show ((la ++ [[ma0, 1 + ma1, rc lsl k 2, 84 + ma3, rc lsl k 4, rc lsl k 5, rc lsl k 6]]).length : Int) = ((n_ + 1) : Int) from by simp; omega), (show ((n_ + 1) : Int) ≤ ((k + 1) : Int) from by omega)⟩, (show lsl.length - (k + 1) < lsl.length - k from by omega)⟩
  ·skip
   replace hF1 := hF1.c hF1 (i := 18) (v := .bool false) rfl (bF hz6)
   refine cF hF1 (by kernel_rfl) (by kernel_rfl) ?_
   refine wp_exit ?_
   refine hK8 _ _ ?_
   refine wp_seq_k fun K20 hK20 => ?_
   obtain rfl : n_ = la.length := by omega
   have hla0 : liB la [] = true := by assumption
   have hla := li_pol hla0
   have hWla : WR 7 la := by assumption
   refine wp_region_lit ?_
   refine sB 4 [(62, .slice G la.length gc), (63, .agg #[.int .i64 200, .int .i64 1000]), (64, .agg #[.int .i64 300, .int .i64 4000]), (65, .agg #[.int .i64 1, .int .i64 200, .int .i64 1000, .int .i64 300, .int .i64 4000])] hF1 (by kernel_rfl) fun a1 hF1 => ?_
   refine wl (eN 66 18 (t := 69) (fun b => .slice (some ⟨b, 0, none⟩) 1 1) #[.int .i64 1, .int .i64 200, .int .i64 1000, .int .i64 300, .int .i64 4000] hF1 hM (by kernel_rfl) (fun _ => by kernel_rfl) fun bb15 a1 w hF1 hM => ?_)
   obtain ⟨nl, enl⟩ : ∃ z, nwL la = z := ⟨_, rfl⟩
   obtain ⟨nm, enm⟩ : ∃ z, nwM [[1, 200, 1000, 300, 4000]] = z := ⟨_, rfl⟩
   have hnm : WR 3 nm := enm ▸ nwM_wr
   have lnl : la.length = nl.length := by rw [← enl]; exact nwL_len.symm
   have lnm : ([[1, 200, 1000, 300, 4000]] : List (List Int)).length = nm.length := by rw [← enm]; exact nwM_len.symm
   have fnl : flE la [[1, 200, 1000, 300, 4000]] (-1000) nl nm = 0 := by rw [← enl, ← enm]; exact fl_new hla
   have gnl := fl_len (fl_p fnl)
   refine wl (sRo2 19 20 (f := 13) (args := #[.slice G la.length gc, .slice (some ⟨bb15, 0, none⟩) 1 1]) (mk := (fun x y => .tuple #[.agg #[.slice G la.length gc, .slice (some ⟨bb15, 0, none⟩) 1 1, .int .i64 (-1000), x, y], .int .i64 0])) (A3 := none) (A4 := none) (n3 := nl.length) (n4 := nm.length) (xs := (nl.map (Value.int .i64))) (ys := (flatR nm)) hF1 hM (by kernel_rfl) rfl (by decide) (by kernel_rfl) (fun _ => by kernel_rfl) (fiNew_okx G la gc (some ⟨bb15, 0, none⟩) [[1, 200, 1000, 300, 4000]] 1 w (ro_of_own (hM.ok 5 _ rfl)) hWla (hM.roRow (k := 18) rfl) (show WR 5 ([[1, 200, 1000, 300, 4000]] : List (List Int)) from by unfold WR; simp) rfl rfl hla enl enm lnl lnm) (.inr Free.none_) (.inr Free.none_) fun AA16 cc16 AA17 cc17 a1 w hF1 hM => ?_)
   refine sB 3 [(61, .tuple #[.agg #[.slice G la.length gc, .slice (some ⟨bb15, 0, none⟩) 1 1, .int .i64 (-1000), .slice AA16 nl.length cc16, .slice AA17 nm.length cc17], .int .i64 0]), (68, .agg #[.slice G la.length gc, .slice (some ⟨bb15, 0, none⟩) 1 1, .int .i64 (-1000), .slice AA16 nl.length cc16, .slice AA17 nm.length cc17]), (69, .int .i64 0)] hF1 (by kernel_rfl) fun a1 hF1 => ?_
   refine wl (eN 9 21 (t := 27) (fun b => .pointer (some ⟨b, 0, none⟩)) #[.slice none 0 0, .slice none 0 0, .int .i64 0, .slice none 0 0, .slice none 0 0] hF1 hM (by kernel_rfl) (fun _ => by kernel_rfl) fun bb18 a1 w hF1 hM => ?_)
   refine wl (sStore (i := 21) (off := 0) (cs' := #[.slice G la.length gc, .slice (some ⟨bb15, 0, none⟩) 1 1, .int .i64 (-1000), .slice AA16 nl.length cc16, .slice AA17 nm.length cc17]) hF1 hM (by kernel_rfl) rfl rfl (by kernel_rfl) (by kernel_rfl) rfl (by kernel_rfl) fun w hM => ?_)
   refine sB 1 [(10, .int .i64 0)] hF1 (by kernel_rfl) fun a1 hF1 => ?_
   refine wpList_nil ?_
   refine hK20 _ _ ?_
   refine wp_seq_k fun K21 hK21 => ?_
   refine wp_region_lit ?_
   refine wl (eL 70 21 0 (v := .agg #[.slice G la.length gc, .slice (some ⟨bb15, 0, none⟩) 1 1, .int .i64 (-1000), .slice AA16 nl.length cc16, .slice AA17 nm.length cc17]) hF1 hM (by kernel_rfl) rfl rfl (by kernel_rfl) (by kernel_rfl) fun a1 w hF1 hM => ?_)
   refine sB 1 [(71, .int .i64 0)] hF1 (by kernel_rfl) fun a1 hF1 => ?_
   refine wl (eP 72 (v0 := .bool (decide (0 = 0))) (v := .bool true) hF1 (by kernel_rfl) (fun _ => by kernel_rfl) (bT (by omega)) fun a1 hF1 => ?_)
   refine wl (sStore (i := 3) (off := 0) (cs' := #[.slice G la.length gc, .slice (some ⟨bb15, 0, none⟩) 1 1, .int .i64 (-1000), .slice AA16 nl.length cc16, .slice AA17 nm.length cc17]) hF1 hM (by kernel_rfl) rfl rfl (by kernel_rfl) (by kernel_rfl) rfl (by kernel_rfl) fun w hM => ?_)
   refine sB 1 [(3, .bool true)] hF1 (by kernel_rfl) fun a1 hF1 => ?_
   refine wpList_nil ?_
   refine hK21 _ _ ?_
   refine wp_ret ?_
   refine hR5 _ _ ?_
   refine ret_of hF1 hM (.cell (i := 3) rfl rfl (v := .agg #[.slice G la.length gc, .slice (some ⟨bb15, 0, none⟩) 1 1, .int .i64 (-1000), .slice AA16 nl.length cc16, .slice AA17 nm.length cc17]) (by kernel_rfl) (.tmp rfl (.nil))) ⟨_, rfl, ?_⟩
   intro a hF
   refine sB 3 [(22, .tuple #[.agg #[.slice G la.length gc, .slice (some ⟨bb15, 0, none⟩) 1 1, .int .i64 (-1000), .slice AA16 nl.length cc16, .slice AA17 nm.length cc17], .bool true]), (25, .agg #[.slice G la.length gc, .slice (some ⟨bb15, 0, none⟩) 1 1, .int .i64 (-1000), .slice AA16 nl.length cc16, .slice AA17 nm.length cc17]), (26, .bool true)] hF (by kernel_rfl) fun a hF => ?_
   refine wl (eN 5 22 (t := 27) (fun b => .pointer (some ⟨b, 0, none⟩)) #[.slice none 0 0, .slice none 0 0, .int .i64 0, .slice none 0 0, .slice none 0 0] hF hM (by kernel_rfl) (fun _ => by kernel_rfl) fun bb19 a w hF hM => ?_)
   refine wl (sStore (i := 22) (off := 0) (cs' := #[.slice G la.length gc, .slice (some ⟨bb15, 0, none⟩) 1 1, .int .i64 (-1000), .slice AA16 nl.length cc16, .slice AA17 nm.length cc17]) hF hM (by kernel_rfl) rfl rfl (by kernel_rfl) (by kernel_rfl) rfl (by kernel_rfl) fun w hM => ?_)
   refine sB 1 [(6, .bool true)] hF (by kernel_rfl) fun a hF => ?_
   refine wpList_nil ?_
   refine hK4 _ _ ?_
   refine wp_seq_k fun K22 hK22 => ?_
   refine wp_seq_k fun K23 hK23 => ?_
   refine wp_region_lit ?_
   refine sB 2 [(27, .bool true), (28, .bool false)] hF (by kernel_rfl) fun a hF => ?_
   refine wpList_nil ?_
   refine hK23 _ _ ?_
   refine cF hF (by kernel_rfl) (by kernel_rfl) ?_
   refine wp_skip ?_
   refine hK22 _ _ ?_
   refine wp_seq_k fun K24 hK24 => ?_
   refine wp_region_lit ?_
   refine wl (sMapN 29 23 hF hM (by kernel_rfl) rfl fun bb20 a w hF hM => ?_)
   refine sB 1 [(7, .map (some bb20))] hF (by kernel_rfl) fun a hF => ?_
   refine wpList_nil ?_
   refine hK24 _ _ ?_
   refine wp_seq_k fun K25 hK25 => ?_
   refine wp_region_lit ?_
   refine sB 1 [(8, .int .i64 0)] hF (by kernel_rfl) fun a hF => ?_
   refine wpList_nil ?_
   refine hK25 _ _ ?_
   refine wp_seq_k fun K26 hK26 => ?_
   refine wp_seq_k fun K27 hK27 => ?_
   obtain ⟨lsl_2, e_lsl_2⟩ : ∃ x : List (List Int), x = f1.take ((min (f1.length : Int) 40).toNat) := ⟨_, rfl⟩
   have len_lsl_2 : (lsl_2.length : Int) = min (f1.length : Int) 40 := by rw [e_lsl_2, List.length_take]; omega
   have hW_lsl_2 : WR 5 lsl_2 := e_lsl_2 ▸ WR.take hV1
   replace hM := hM.roMore 24 2 (xs' := (flatK [.u16, .u8, .u8, .u8, .u8] lsl_2)) rfl (by rw [e_lsl_2]; exact flatK_sub _)
   have hb_lsl_2 : FrB lsl_2 := by rw [e_lsl_2]; exact hb1.take
   refine wp_region_lit ?_
   refine sB 3 [(30, .slice B1 f1.length c1), (31, .slice B1 f1.length c1), (32, .int .i64 (f1.length : Int))] hF (by kernel_rfl) fun a hF => ?_
   refine wl (eP 33 (v0 := .int .i64 (if 40 < (f1.length : Int) then 40 else (f1.length : Int))) (v := .int .i64 (min (f1.length : Int) 40)) hF (by kernel_rfl) (fun _ => by kernel_rfl) (vi (min_if _ _)) fun a hF => ?_)
   refine wl (eM 34 (v := .slice B1 lsl_2.length c1) hF hM (by kernel_rfl) (yld_slice0 (e := 54) (len := f1.length) (cap := c1) (m := lsl_2.length) (A := B1) (i := min (f1.length : Int) 40) hF rfl (by kernel_rfl) (by kernel_rfl) (by kernel_rfl) (by kernel_rfl) (by kernel_rfl) (by omega) (by omega)) fun a w hF hM => ?_)
   refine sB 2 [(35, .int .i64 (lsl_2.length : Int)), (36, .int .i64 0)] hF (by kernel_rfl) fun a hF => ?_
   refine wpList_nil ?_
   refine hK27 _ _ ?_
   refine wp_block ?_
   refine wp_loop_k (G := Nat × Int × List Int × List (List Int) × Option Addr × Nat × Option Addr × Nat × Int × List ME) (fun gg a w => Fr 211 [(8, some (.int .i64 gg.2.2.2.2.2.2.2.2.1)), (36, some (.int .i64 (gg.1 : Int))), (5, some (.pointer (some ⟨bb19, 0, none⟩))), (7, some (.map (some bb20))), (34, some (.slice B1 lsl_2.length c1)), (35, some (.int .i64 (lsl_2.length : Int)))] a ∧ Mem w0.heap.size w0 [(1, some (.ro A (flatR l))), (2, some (.ro B1 (flatK [.u16, .u8, .u8, .u8, .u8] f1))), (4, some (.ro A (flatR lsl))), (5, some (.own (.slice G la.length gc) 57 7 la.length (flatR la))), (18, some (.row bb15 69 #[.int .i64 1, .int .i64 200, .int .i64 1000, .int .i64 300, .int .i64 4000])), (19, some (.ro gg.2.2.2.2.1 (gg.2.2.1.map (Value.int .i64)))), (20, some (.ro gg.2.2.2.2.2.2.1 (flatR gg.2.2.2.1))), (22, some (.row bb19 27 #[.slice G la.length gc, .slice (some ⟨bb15, 0, none⟩) 1 1, .int .i64 gg.2.1, .slice gg.2.2.2.2.1 gg.2.2.1.length gg.2.2.2.2.2.1, .slice gg.2.2.2.2.2.2.1 gg.2.2.2.1.length gg.2.2.2.2.2.2.2.1])), (23, some (.obj bb20 (mapO gg.2.2.2.2.2.2.2.2.2))), (24, some (.ro B1 (flatK [.u16, .u8, .u8, .u8, .u8] lsl_2)))] w ∧ ((gg.1 : Int) ≤ (lsl_2.length : Int)) ∧ (-1000 ≤ gg.2.1) ∧ (flE la [[1, 200, 1000, 300, 4000]] gg.2.1 gg.2.2.1 gg.2.2.2.1 = 0) ∧ (WR 3 gg.2.2.2.1) ∧ ((gg.2.2.1.length : Int) = (la.length : Int)) ∧ ((gg.2.2.2.1.length : Int) = 1) ∧ (0 ≤ gg.2.2.2.2.2.2.2.2.1 ∧ gg.2.2.2.2.2.2.2.2.1 ≤ 65535 * (gg.1 : Int)) ∧ (gg.2.1 ≤ gg.2.2.2.2.2.2.2.2.1) ∧ (MOk la gg.2.2.1 gg.2.2.2.2.2.2.2.2.2)) (fun gg => lsl_2.length - gg.1) (0, -1000, nl, nm, AA16, cc16, AA17, cc17, 0, []) ?_ ?_
   ·refine ⟨(((((((Fr.nil hF).c hF (i := 35) rfl rfl).c hF (i := 34) rfl rfl).c hF (i := 7) rfl rfl).c hF (i := 5) rfl rfl).c hF (i := 36) rfl (vi (show (0 : Int) = (0 : Int) from by omega))).c hF (i := 8) rfl rfl), (hM.sub ((((((((((Sub.nil.c (k := 24) rfl rfl).c (k := 23) rfl rfl).c (k := 22) rfl rfl).c (k := 20) rfl rfl).c (k := 19) rfl rfl).c (k := 18) rfl rfl).c (k := 5) rfl rfl).c (k := 4) rfl rfl).c (k := 2) rfl rfl).c (k := 1) rfl rfl)), (show (0 : Int) ≤ (lsl_2.length : Int) from by omega), (show -1000 ≤ (-1000) from by omega), (show flE la [[1, 200, 1000, 300, 4000]] (-1000) nl nm = 0 from by exact fnl), (show WR 3 nm from by exact hnm), (show (nl.length : Int) = (la.length : Int) from by omega), (show (nm.length : Int) = 1 from by first | omega | (have := fl_len (fl_p fnl); simp at this; omega)), (show 0 ≤ 0 ∧ 0 ≤ 65535 * (0 : Int) from by omega), (show (-1000) ≤ 0 from by omega), (show MOk la nl ([]) from by exact MOk.nil)⟩
   ·intro gg a w hI
    intro K28 hK28
    obtain ⟨k1, fn_, lz, mm, G3, g3, G4, g4, tt, ml⟩ := gg
    try dsimp only at hI hK28
    obtain ⟨hF, hM, hz8, hz9, hz10, hz11, hz12, hz13, hz14, hz15, hz16⟩ := hI
    have hfl_fn_ : flE la [[1, 200, 1000, 300, 4000]] fn_ lz mm = 0 := by assumption
    have hmok : MOk la lz ml := by assumption
    refine wp_seq_k fun K29 hK29 => ?_
    refine wp_region_lit ?_
    refine sB 1 [(37, .bool (decide ((k1 : Int) < (lsl_2.length : Int))))] hF (by kernel_rfl) fun a hF => ?_
    refine wpList_nil ?_
    refine hK29 _ _ ?_
    refine wp_seq_k fun K30 hK30 => ?_
    by_cases hz17 : (k1 : Int) < (lsl_2.length : Int)
    ·skip
     replace hF := hF.c hF (i := 37) (v := .bool true) rfl (bT hz17)
     refine cT hF (by kernel_rfl) (by kernel_rfl) ?_
     refine wp_skip ?_
     refine hK30 _ _ ?_
     refine wp_seq_k fun K31 hK31 => ?_
     refine wp_block ?_
     refine wp_seq_k fun K32 hK32 => ?_
     refine wp_region_lit ?_
     refine wl (eM 38 (v := .pointer (some (ea B1 (k1 * 5)))) hF hM (by kernel_rfl) (yld_ix (kd := .i64) (e := 54) (len := lsl_2.length) (cap := c1) (i := (k1 : Int)) (size := 5) (A := B1) hF rfl (by kernel_rfl) (by kernel_rfl) (by kernel_rfl) (by kernel_rfl) (by kernel_rfl) (roK 24 rfl) (by omega) (by omega) (by rw [flatK_length (ks := [.u16, .u8, .u8, .u8, .u8]) hW_lsl_2]; simp only [List.length_map, List.length_append, List.length_replicate, List.length_set, List.length_cons, List.length_nil, flat2_length, List.length_take]; omega)) fun a w hF hM => ?_)
     refine wl (eM 39 (v := .agg #[.int .u16 (rc lsl_2 k1 0), .int .u8 (rc lsl_2 k1 1), .int .u8 (rc lsl_2 k1 2), .int .u8 (rc lsl_2 k1 3), .int .u8 (rc lsl_2 k1 4)]) hF hM (by kernel_rfl) (yld_roM (A := B1) (j := k1 * 5) (us := [.int .u16 (rc lsl_2 k1 0), .int .u8 (rc lsl_2 k1 1), .int .u8 (rc lsl_2 k1 2), .int .u8 (rc lsl_2 k1 3), .int .u8 (rc lsl_2 k1 4)]) hF rfl (by kernel_rfl) (by kernel_rfl) (roK 24 rfl) (by kernel_rfl) rfl (rcK_sub (ks := [.u16, .u8, .u8, .u8, .u8]) (k := k1) (f := 0) hW_lsl_2 (by omega) rfl)) fun a w hF hM => ?_)
     have := fr_bd hb_lsl_2 (k := k1) (by omega)
     refine wl (eN 10 25 (t := 54) (fun b => .pointer (some ⟨b, 0, none⟩)) #[.int .u16 0, .int .u8 0, .int .u8 0, .int .u8 0, .int .u8 0] hF hM (by kernel_rfl) (fun _ => by kernel_rfl) fun bb21 a w hF hM => ?_)
     refine wl (sStore (i := 25) (off := 0) (cs' := #[.int .u16 (rc lsl_2 k1 0), .int .u8 (rc lsl_2 k1 1), .int .u8 (rc lsl_2 k1 2), .int .u8 (rc lsl_2 k1 3), .int .u8 (rc lsl_2 k1 4)]) hF hM (by kernel_rfl) rfl rfl (by kernel_rfl) (by kernel_rfl) rfl (by kernel_rfl) fun w hM => ?_)
     refine wpList_nil ?_
     refine hK32 _ _ ?_
     refine wp_seq_k fun K33 hK33 => ?_
     refine wp_region_lit ?_
     refine sB 2 [(40, .int .i64 tt), (41, .pointer (some ⟨bb21, 0, none⟩))] hF (by kernel_rfl) fun a hF => ?_
     refine wl (eL 42 25 0 (v := .int .u16 (rc lsl_2 k1 0)) hF hM (by kernel_rfl) rfl rfl (by kernel_rfl) (by kernel_rfl) fun a w hF hM => ?_)
     refine wl (eP 43 (v0 := .int .i64 (IntKind.i64.wrap (rc lsl_2 k1 0))) (v := .int .i64 (rc lsl_2 k1 0)) hF (by kernel_rfl) (fun _ => by kernel_rfl) (vi (IntWalk.i64_in _ (by omega))) fun a hF => ?_)
     obtain ⟨tn, htn⟩ : ∃ z : Int, tt + rc lsl_2 k1 0 = z := ⟨_, rfl⟩
     refine wl (eP 44 (v0 := .int .i64 (IntKind.i64.wrap (tt + rc lsl_2 k1 0))) (v := .int .i64 tn) hF (by kernel_rfl) (fun _ => by kernel_rfl) (vi ((w64 (by omega)).trans htn)) fun a hF => ?_)
     refine sB 1 [(8, .int .i64 tn)] hF (by kernel_rfl) fun a hF => ?_
     refine wpList_nil ?_
     refine hK33 _ _ ?_
     refine wp_seq_k fun K34 hK34 => ?_
     obtain ⟨po, hpo⟩ : ∃ z : Int, rc lsl_2 k1 1 % 3 = z := ⟨_, rfl⟩
     obtain ⟨it1, e_it1⟩ : ∃ x : Int, x = rc lsl_2 k1 2 % 4 := ⟨_, rfl⟩
     obtain ⟨it3, e_it3⟩ : ∃ x : Int, x = rc lsl_2 k1 3 % 8 := ⟨_, rfl⟩
     obtain ⟨it4, e_it4⟩ : ∃ x : Int, x = 84 + rc lsl_2 k1 4 % 4 := ⟨_, rfl⟩
     have hv_it1 : viB it1 0 it3 it4 0 = true := decide_eq_true (by unfold viP; omega)
     refine rF (by kernel_rfl) (by kernel_rfl) (fun S a w => ∃ bb22 : Nat, Fr 211 [(5, some (.pointer (some ⟨bb19, 0, none⟩))), (7, some (.map (some bb20))), (8, some (.int .i64 tn)), (10, some (.pointer (some ⟨bb21, 0, none⟩))), (11, (cond (S.getD 7 false) (some (.int .i64 po)) none)), (12, (cond (S.getD 6 false) (some (.pointer (some ⟨bb22, 0, none⟩))) none)), (34, some (.slice B1 lsl_2.length c1)), (35, some (.int .i64 (lsl_2.length : Int))), (36, some (.int .i64 (k1 : Int))), (45, (cond (S.getD 0 false) (some (.pointer (some ⟨bb21, 1, none⟩))) none)), (46, (cond (S.getD 1 false) (some (.int .u8 (rc lsl_2 k1 1))) none)), (47, (cond (S.getD 2 false) (some (.int .u8 po)) none)), (48, (cond (S.getD 3 false) (some (.int .i64 po)) none)), (49, (cond (S.getD 4 false) (some (.agg #[.int .u16 (rc lsl_2 k1 0), .int .u8 (rc lsl_2 k1 1), .int .u8 (rc lsl_2 k1 2), .int .u8 (rc lsl_2 k1 3), .int .u8 (rc lsl_2 k1 4)])) none)), (50, (cond (S.getD 5 false) (some (.agg #[.int .i64 it1, .int .i64 0, .int .i64 it3, .int .i64 it4, .int .i64 0])) none))] a ∧ Mem w0.heap.size w0 [(1, some (.ro A (flatR l))), (2, some (.ro B1 (flatK [.u16, .u8, .u8, .u8, .u8] f1))), (4, some (.ro A (flatR lsl))), (5, some (.own (.slice G la.length gc) 57 7 la.length (flatR la))), (18, some (.row bb15 69 #[.int .i64 1, .int .i64 200, .int .i64 1000, .int .i64 300, .int .i64 4000])), (19, some (.ro G3 (lz.map (Value.int .i64)))), (20, some (.ro G4 (flatR mm))), (22, some (.row bb19 27 #[.slice G la.length gc, .slice (some ⟨bb15, 0, none⟩) 1 1, .int .i64 fn_, .slice G3 lz.length g3, .slice G4 mm.length g4])), (23, some (.obj bb20 (mapO ml))), (24, some (.ro B1 (flatK [.u16, .u8, .u8, .u8, .u8] lsl_2))), (25, some (.row bb21 54 #[.int .u16 (rc lsl_2 k1 0), .int .u8 (rc lsl_2 k1 1), .int .u8 (rc lsl_2 k1 2), .int .u8 (rc lsl_2 k1 3), .int .u8 (rc lsl_2 k1 4)])), (26, (cond (S.getD 8 false) (some (.row bb22 39 #[.int .i64 it1, .int .i64 0, .int .i64 it3, .int .i64 it4, .int .i64 0])) (cond (S.getD 6 false) (some (.row bb22 39 #[.int .i64 0, .int .i64 0, .int .i64 0, .int .i64 0, .int .i64 0])) none)))] w) ?_ ?_ ?_
     ·exact ⟨0, ((((((((((((((((Fr.nil hF).co hF (i := 50) (by kernel_rfl)).co hF (i := 49) (by kernel_rfl)).co hF (i := 48) (by kernel_rfl)).co hF (i := 47) (by kernel_rfl)).co hF (i := 46) (by kernel_rfl)).co hF (i := 45) (by kernel_rfl)).co hF (i := 36) (by kernel_rfl)).co hF (i := 35) (by kernel_rfl)).co hF (i := 34) (by kernel_rfl)).co hF (i := 12) (by kernel_rfl)).co hF (i := 11) (by kernel_rfl)).co hF (i := 10) (by kernel_rfl)).co hF (i := 8) (by kernel_rfl)).co hF (i := 7) (by kernel_rfl)).co hF (i := 5) (by kernel_rfl)), hM.drew.sub ((((((((((((Sub.nil.co (k := 26) (by kernel_rfl)).co (k := 25) (by kernel_rfl)).co (k := 24) (by kernel_rfl)).co (k := 23) (by kernel_rfl)).co (k := 22) (by kernel_rfl)).co (k := 20) (by kernel_rfl)).co (k := 19) (by kernel_rfl)).co (k := 18) (by kernel_rfl)).co (k := 5) (by kernel_rfl)).co (k := 4) (by kernel_rfl)).co (k := 2) (by kernel_rfl)).co (k := 1) (by kernel_rfl))⟩
     ·refine stC ?_ (stC ?_ (stC ?_ (stC ?_ (stC ?_ (stC ?_ (stC ?_ (stC ?_ (stC ?_ (trivial)))))))))
      ·intro s0 s1 s2 s3 s4 s5 s6 s7 s8 hc hi hp a w hS
       obtain rfl : s0 = false := hi
       obtain ⟨bb22, hF, hM⟩ := hS
       refine eP 45 (v0 := .pointer (some ⟨bb21, 1, none⟩)) (v := .pointer (some ⟨bb21, 1, none⟩)) hF (by kernel_rfl) (fun _ => by kernel_rfl) rfl fun a hF => ?_
       exact ⟨bb22, ((hF.repl 9 (by kernel_rfl)).cast (by kernel_rfl)), (hM.cast (by kernel_rfl))⟩
      ·intro s0 s1 s2 s3 s4 s5 s6 s7 s8 hc hi hp a w hS
       obtain rfl : s1 = false := hi
       obtain rfl : s0 = true := hp 0 (by kernel_rfl)
       obtain ⟨bb22, hF, hM⟩ := hS
       refine eL 46 25 1 (v := .int .u8 (rc lsl_2 k1 1)) hF hM (by kernel_rfl) rfl rfl (by kernel_rfl) (by kernel_rfl) fun a w hF hM => ?_
       exact ⟨bb22, ((hF.repl 10 (by kernel_rfl)).cast (by kernel_rfl)), (hM.cast (by kernel_rfl))⟩
      ·intro s0 s1 s2 s3 s4 s5 s6 s7 s8 hc hi hp a w hS
       obtain rfl : s2 = false := hi
       obtain rfl : s1 = true := hp 1 (by kernel_rfl)
       obtain ⟨bb22, hF, hM⟩ := hS
       refine eM 47 (v := .int .u8 po) hF hM (by kernel_rfl) (yld_rem (rc lsl_2 k1 1) 3 hF rfl (by kernel_rfl) (by kernel_rfl) (by kernel_rfl) (by omega) ((Int.tmod_eq_emod_of_nonneg (by omega)).trans hpo)) fun a w hF hM => ?_
       exact ⟨bb22, ((hF.repl 11 (by kernel_rfl)).cast (by kernel_rfl)), (hM.cast (by kernel_rfl))⟩
      ·intro s0 s1 s2 s3 s4 s5 s6 s7 s8 hc hi hp a w hS
       obtain rfl : s3 = false := hi
       obtain rfl : s2 = true := hp 2 (by kernel_rfl)
       obtain ⟨bb22, hF, hM⟩ := hS
       refine eP 48 (v0 := .int .i64 (IntKind.i64.wrap po)) (v := .int .i64 po) hF (by kernel_rfl) (fun _ => by kernel_rfl) (vi (IntWalk.i64_in _ (by omega))) fun a hF => ?_
       exact ⟨bb22, ((hF.repl 12 (by kernel_rfl)).cast (by kernel_rfl)), (hM.cast (by kernel_rfl))⟩
      ·intro s0 s1 s2 s3 s4 s5 s6 s7 s8 hc hi hp a w hS
       obtain rfl : s4 = false := hi
       obtain ⟨bb22, hF, hM⟩ := hS
       refine eL 49 25 0 (v := .agg #[.int .u16 (rc lsl_2 k1 0), .int .u8 (rc lsl_2 k1 1), .int .u8 (rc lsl_2 k1 2), .int .u8 (rc lsl_2 k1 3), .int .u8 (rc lsl_2 k1 4)]) hF hM (by kernel_rfl) rfl rfl (by kernel_rfl) (by kernel_rfl) fun a w hF hM => ?_
       exact ⟨bb22, ((hF.repl 13 (by kernel_rfl)).cast (by kernel_rfl)), (hM.cast (by kernel_rfl))⟩
      ·intro s0 s1 s2 s3 s4 s5 s6 s7 s8 hc hi hp a w hS
       obtain rfl : s5 = false := hi
       obtain rfl : s4 = true := hp 4 (by kernel_rfl)
       obtain ⟨bb22, hF, hM⟩ := hS
       refine eM 50 (v := .agg #[.int .i64 it1, .int .i64 0, .int .i64 it3, .int .i64 it4, .int .i64 0]) hF hM (by kernel_rfl) (yld_call (f := 22) (args := #[.agg #[.int .u16 (rc lsl_2 k1 0), .int .u8 (rc lsl_2 k1 1), .int .u8 (rc lsl_2 k1 2), .int .u8 (rc lsl_2 k1 3), .int .u8 (rc lsl_2 k1 4)]]) hF (by kernel_rfl) (fun _ => by kernel_rfl) (fun w hM => by rw [e_it1, e_it3, e_it4]; exact item_w (rc lsl_2 k1 0) (rc lsl_2 k1 1) (rc lsl_2 k1 2) (rc lsl_2 k1 3) (rc lsl_2 k1 4) w (by omega))) fun a w hF hM => ?_
       exact ⟨bb22, ((hF.repl 14 (by kernel_rfl)).cast (by kernel_rfl)), (hM.cast (by kernel_rfl))⟩
      ·intro s0 s1 s2 s3 s4 s5 s6 s7 s8 hc hi hp a w hS
       obtain rfl : s6 = false := hi
       obtain rfl : s8 = false := hc.f 8 6 (by kernel_rfl) rfl
       obtain ⟨bb22, hF, hM⟩ := hS
       refine eN 12 26 (t := 39) (fun b => .pointer (some ⟨b, 0, none⟩)) #[.int .i64 0, .int .i64 0, .int .i64 0, .int .i64 0, .int .i64 0] hF hM (by kernel_rfl) (fun _ => by kernel_rfl) fun bb22 a w hF hM => ?_
       exact ⟨bb22, ((hF.repl 5 (by kernel_rfl)).cast (by kernel_rfl)), ((hM.repl 11 (by kernel_rfl)).cast (by kernel_rfl))⟩
      ·intro s0 s1 s2 s3 s4 s5 s6 s7 s8 hc hi hp a w hS
       obtain rfl : s7 = false := hi
       obtain rfl : s3 = true := hp 3 (by kernel_rfl)
       obtain ⟨bb22, hF, hM⟩ := hS
       refine eP 11 (v0 := .int .i64 po) (v := .int .i64 po) hF (by kernel_rfl) (fun _ => by kernel_rfl) rfl fun a hF => ?_
       exact ⟨bb22, ((hF.repl 4 (by kernel_rfl)).cast (by kernel_rfl)), (hM.cast (by kernel_rfl))⟩
      ·intro s0 s1 s2 s3 s4 s5 s6 s7 s8 hc hi hp a w hS
       obtain rfl : s8 = false := hi
       obtain rfl : s6 = true := hp 6 (by kernel_rfl)
       obtain rfl : s5 = true := hp 5 (by kernel_rfl)
       obtain ⟨bb22, hF, hM⟩ := hS
       refine sStore (i := 26) (off := 0) (cs' := #[.int .i64 it1, .int .i64 0, .int .i64 it3, .int .i64 it4, .int .i64 0]) hF hM (by kernel_rfl) rfl rfl (by kernel_rfl) (by kernel_rfl) rfl (by kernel_rfl) fun w hM => ?_
       exact ⟨bb22, (hF.cast (by kernel_rfl)), ((hM.repl 11 (by kernel_rfl)).cast (by kernel_rfl))⟩
     ·intro a w hS
      obtain ⟨bb22, hF, hM⟩ := hS
      replace hF : Fr 211 [(5, some (.pointer (some ⟨bb19, 0, none⟩))), (7, some (.map (some bb20))), (8, some (.int .i64 tn)), (10, some (.pointer (some ⟨bb21, 0, none⟩))), (11, some (.int .i64 po)), (12, some (.pointer (some ⟨bb22, 0, none⟩))), (34, some (.slice B1 lsl_2.length c1)), (35, some (.int .i64 (lsl_2.length : Int))), (36, some (.int .i64 (k1 : Int))), (45, some (.pointer (some ⟨bb21, 1, none⟩))), (46, some (.int .u8 (rc lsl_2 k1 1))), (47, some (.int .u8 po)), (48, some (.int .i64 po)), (49, some (.agg #[.int .u16 (rc lsl_2 k1 0), .int .u8 (rc lsl_2 k1 1), .int .u8 (rc lsl_2 k1 2), .int .u8 (rc lsl_2 k1 3), .int .u8 (rc lsl_2 k1 4)])), (50, some (.agg #[.int .i64 it1, .int .i64 0, .int .i64 it3, .int .i64 it4, .int .i64 0]))] a := hF.cast (by kernel_rfl)
      replace hM : Mem w0.heap.size w0 [(1, some (.ro A (flatR l))), (2, some (.ro B1 (flatK [.u16, .u8, .u8, .u8, .u8] f1))), (4, some (.ro A (flatR lsl))), (5, some (.own (.slice G la.length gc) 57 7 la.length (flatR la))), (18, some (.row bb15 69 #[.int .i64 1, .int .i64 200, .int .i64 1000, .int .i64 300, .int .i64 4000])), (19, some (.ro G3 (lz.map (Value.int .i64)))), (20, some (.ro G4 (flatR mm))), (22, some (.row bb19 27 #[.slice G la.length gc, .slice (some ⟨bb15, 0, none⟩) 1 1, .int .i64 fn_, .slice G3 lz.length g3, .slice G4 mm.length g4])), (23, some (.obj bb20 (mapO ml))), (24, some (.ro B1 (flatK [.u16, .u8, .u8, .u8, .u8] lsl_2))), (25, some (.row bb21 54 #[.int .u16 (rc lsl_2 k1 0), .int .u8 (rc lsl_2 k1 1), .int .u8 (rc lsl_2 k1 2), .int .u8 (rc lsl_2 k1 3), .int .u8 (rc lsl_2 k1 4)])), (26, some (.row bb22 39 #[.int .i64 it1, .int .i64 0, .int .i64 it3, .int .i64 it4, .int .i64 0]))] w := hM.cast (by kernel_rfl)
      refine hK34 _ _ ?_
      refine wp_seq_k fun K35 hK35 => ?_
      refine wp_region_lit ?_
      refine wl (eL 52 22 0 (v := .agg #[.slice G la.length gc, .slice (some ⟨bb15, 0, none⟩) 1 1, .int .i64 fn_, .slice G3 lz.length g3, .slice G4 mm.length g4]) hF hM (by kernel_rfl) rfl rfl (by kernel_rfl) (by kernel_rfl) fun a w hF hM => ?_)
      refine sB 1 [(53, .int .i64 po)] hF (by kernel_rfl) fun a hF => ?_
      refine wl (eL 54 26 0 (v := .agg #[.int .i64 it1, .int .i64 0, .int .i64 it3, .int .i64 it4, .int .i64 0]) hF hM (by kernel_rfl) rfl rfl (by kernel_rfl) (by kernel_rfl) fun a w hF hM => ?_)
      refine wl (eM 55 (v := .tuple #[.int .i64 (regI po it1 it3 la), .int .i64 0]) hF hM (by kernel_rfl) (yld_call (f := 16) (args := #[.agg #[.slice G la.length gc, .slice (some ⟨bb15, 0, none⟩) 1 1, .int .i64 fn_, .slice G3 lz.length g3, .slice G4 mm.length g4], .int .i64 po, .agg #[.int .i64 it1, .int .i64 0, .int .i64 it3, .int .i64 it4, .int .i64 0]]) hF (by kernel_rfl) (fun _ => by kernel_rfl) (fun w hM => calls_val (fn_ok hfl_fn_ hv_it1) (fiFind_x G la gc (some ⟨bb15, 0, none⟩) [[1, 200, 1000, 300, 4000]] 1 fn_ G3 lz g3 G4 mm g4 po it1 0 it3 it4 0 w (ro_of_own (hM.ok 5 _ rfl)) hWla (hM.roRow (k := 18) rfl) (show WR 5 ([[1, 200, 1000, 300, 4000]] : List (List Int)) from by unfold WR; simp) (hM.ok 19 _ rfl) (hM.ok 20 _ rfl) (show WR 3 mm from by assumption) rfl rfl rfl rfl))) fun a w hF hM => ?_)
      refine sB 5 [(51, .tuple #[.int .i64 (regI po it1 it3 la), .int .i64 0]), (56, .int .i64 (regI po it1 it3 la)), (57, .int .i64 0), (13, .int .i64 (regI po it1 it3 la)), (14, .int .i64 0)] hF (by kernel_rfl) fun a hF => ?_
      refine wpList_nil ?_
      refine hK35 _ _ ?_
      refine wp_seq_k fun K36 hK36 => ?_
      refine wp_region_lit ?_
      refine wl (eL 59 22 0 (v := .agg #[.slice G la.length gc, .slice (some ⟨bb15, 0, none⟩) 1 1, .int .i64 fn_, .slice G3 lz.length g3, .slice G4 mm.length g4]) hF hM (by kernel_rfl) rfl rfl (by kernel_rfl) (by kernel_rfl) fun a w hF hM => ?_)
      refine sB 1 [(60, .int .i64 po)] hF (by kernel_rfl) fun a hF => ?_
      refine wl (eL 61 26 0 (v := .agg #[.int .i64 it1, .int .i64 0, .int .i64 it3, .int .i64 it4, .int .i64 0]) hF hM (by kernel_rfl) rfl rfl (by kernel_rfl) (by kernel_rfl) fun a w hF hM => ?_)
      refine sB 1 [(62, .int .i64 tn)] hF (by kernel_rfl) fun a hF => ?_
      obtain ⟨pl, pm, pv, epl⟩ : ∃ x y z, psR la [[1, 200, 1000, 300, 4000]] lz mm po it1 it3 it4 tn = (x, y, z) := ⟨_, _, _, rfl⟩
      have lpl := psR_len epl
      have hpm := psR_wr epl (show WR 3 mm from by assumption)
      have fpl := psR_ok (i2 := 0) (i5 := 0) hfl_fn_ hv_it1 ⟨(by omega), (by omega)⟩ epl
      refine wl (sRo2 27 28 (f := 17) (args := #[.agg #[.slice G la.length gc, .slice (some ⟨bb15, 0, none⟩) 1 1, .int .i64 fn_, .slice G3 lz.length g3, .slice G4 mm.length g4], .int .i64 po, .agg #[.int .i64 it1, .int .i64 0, .int .i64 it3, .int .i64 it4, .int .i64 0], .int .i64 tn]) (mk := (fun x y => .tuple #[.agg #[.slice G la.length gc, .slice (some ⟨bb15, 0, none⟩) 1 1, .int .i64 tn, x, y], .int .i64 pv, .int .i64 0])) (A3 := G3) (A4 := G4) (n3 := pl.length) (n4 := pm.length) (xs := (pl.map (Value.int .i64))) (ys := (flatR pm)) hF hM (by kernel_rfl) rfl (by decide) (by kernel_rfl) (fun _ => by kernel_rfl) (fiPass_ok G la gc (some ⟨bb15, 0, none⟩) [[1, 200, 1000, 300, 4000]] 1 fn_ G3 lz g3 G4 mm g4 po it1 0 it3 it4 0 tn w (ro_of_own (hM.ok 5 _ rfl)) hWla (hM.roRow (k := 18) rfl) (show WR 5 ([[1, 200, 1000, 300, 4000]] : List (List Int)) from by unfold WR; simp) (hM.ok 19 _ rfl) (hM.ok 20 _ rfl) (show WR 3 mm from by assumption) hfl_fn_ ⟨(by omega), (by omega)⟩ hv_it1 ⟨(by omega), (by omega)⟩ epl lpl.1 lpl.2) (freeOr hM (k := 19) rfl (by simp only [List.length_map]; omega)) (freeOr hM (k := 20) rfl (by rw [flatR_length (show WR 3 mm from by assumption), flatR_length hpm]; omega)) fun AA23 cc23 AA24 cc24 a w hF hM => ?_)
      refine sB 4 [(58, .tuple #[.agg #[.slice G la.length gc, .slice (some ⟨bb15, 0, none⟩) 1 1, .int .i64 tn, .slice AA23 pl.length cc23, .slice AA24 pm.length cc24], .int .i64 pv, .int .i64 0]), (64, .agg #[.slice G la.length gc, .slice (some ⟨bb15, 0, none⟩) 1 1, .int .i64 tn, .slice AA23 pl.length cc23, .slice AA24 pm.length cc24]), (65, .int .i64 pv), (66, .int .i64 0)] hF (by kernel_rfl) fun a hF => ?_
      refine wl (eN 15 29 (t := 27) (fun b => .pointer (some ⟨b, 0, none⟩)) #[.slice none 0 0, .slice none 0 0, .int .i64 0, .slice none 0 0, .slice none 0 0] hF hM (by kernel_rfl) (fun _ => by kernel_rfl) fun bb25 a w hF hM => ?_)
      refine wl (sStore (i := 29) (off := 0) (cs' := #[.slice G la.length gc, .slice (some ⟨bb15, 0, none⟩) 1 1, .int .i64 tn, .slice AA23 pl.length cc23, .slice AA24 pm.length cc24]) hF hM (by kernel_rfl) rfl rfl (by kernel_rfl) (by kernel_rfl) rfl (by kernel_rfl) fun w hM => ?_)
      refine sB 2 [(16, .int .i64 pv), (17, .int .i64 0)] hF (by kernel_rfl) fun a hF => ?_
      refine wpList_nil ?_
      refine hK36 _ _ ?_
      refine wp_seq_k fun K37 hK37 => ?_
      refine wp_seq_k fun K38 hK38 => ?_
      refine wp_region_lit ?_
      refine sB 1 [(67, .int .i64 0)] hF (by kernel_rfl) fun a hF => ?_
      refine wl (eP 68 (v0 := .bool (!decide (0 = 0))) (v := .bool false) hF (by kernel_rfl) (fun _ => by kernel_rfl) (nT (by omega)) fun a hF => ?_)
      refine sB 2 [(69, .bool false), (70, .int .i64 0)] hF (by kernel_rfl) fun a hF => ?_
      refine wl (eP 71 (v0 := .bool (!decide (0 = 0))) (v := .bool false) hF (by kernel_rfl) (fun _ => by kernel_rfl) (nT (by omega)) fun a hF => ?_)
      refine sB 3 [(72, .bool false), (73, .bool false), (74, .pointer (some ⟨bb25, 2, none⟩))] hF (by kernel_rfl) fun a hF => ?_
      refine wl (eL 75 29 2 (v := .int .i64 tn) hF hM (by kernel_rfl) rfl rfl (by kernel_rfl) (by kernel_rfl) fun a w hF hM => ?_)
      refine sB 1 [(76, .int .i64 tn)] hF (by kernel_rfl) fun a hF => ?_
      refine wl (eP 77 (v0 := .bool (!decide (tn = tn))) (v := .bool false) hF (by kernel_rfl) (fun _ => by kernel_rfl) (nT (by omega)) fun a hF => ?_)
      refine sB 1 [(78, .bool false)] hF (by kernel_rfl) fun a hF => ?_
      refine wpList_nil ?_
      refine hK38 _ _ ?_
      refine cF hF (by kernel_rfl) (by kernel_rfl) ?_
      refine wp_skip ?_
      refine hK37 _ _ ?_
      refine wp_seq_k fun K39 hK39 => ?_
      refine wp_seq_k fun K40 hK40 => ?_
      refine wp_region_lit ?_
      refine wl (eL 79 29 0 (v := .agg #[.slice G la.length gc, .slice (some ⟨bb15, 0, none⟩) 1 1, .int .i64 tn, .slice AA23 pl.length cc23, .slice AA24 pm.length cc24]) hF hM (by kernel_rfl) rfl rfl (by kernel_rfl) (by kernel_rfl) fun a w hF hM => ?_)
      refine wl (sStore (i := 22) (off := 0) (cs' := #[.slice G la.length gc, .slice (some ⟨bb15, 0, none⟩) 1 1, .int .i64 tn, .slice AA23 pl.length cc23, .slice AA24 pm.length cc24]) hF hM (by kernel_rfl) rfl rfl (by kernel_rfl) (by kernel_rfl) rfl (by kernel_rfl) fun w hM => ?_)
      refine wpList_nil ?_
      refine hK40 _ _ ?_
      refine wp_seq_k fun K41 hK41 => ?_
      refine wp_region_lit ?_
      refine sB 1 [(80, .pointer (some ⟨bb22, 2, none⟩))] hF (by kernel_rfl) fun a hF => ?_
      refine wl (eL 81 26 2 (v := .int .i64 it3) hF hM (by kernel_rfl) rfl rfl (by kernel_rfl) (by kernel_rfl) fun a w hF hM => ?_)
      refine sB 1 [(82, .bool (decide (it3 < 6)))] hF (by kernel_rfl) fun a hF => ?_
      refine wpList_nil ?_
      refine hK41 _ _ ?_
      by_cases hz18 : it3 < 6
      ·skip
       replace hF := hF.c hF (i := 82) (v := .bool true) rfl (bT hz18)
       refine cT hF (by kernel_rfl) (by kernel_rfl) ?_
       refine wp_seq_k fun K42 hK42 => ?_
       refine wp_seq_k fun K43 hK43 => ?_
       have hom := once_m (by omega) epl
       by_cases hz19 : pv = 0
       ·skip
        have hom := once_m (by omega) epl
        refine wp_region_lit ?_
        refine sB 1 [(83, .int .i64 pv)] hF (by kernel_rfl) fun a hF => ?_
        refine wl (eP 84 (v0 := .bool (!decide (pv = 0))) (v := .bool false) hF (by kernel_rfl) (fun _ => by kernel_rfl) (nT hz19) fun a hF => ?_)
        refine sB 8 [(85, .bool false), (86, undef), (87, undef), (88, undef), (89, undef), (90, undef), (91, undef), (92, .bool false)] hF (by kernel_rfl) fun a hF => ?_
        refine wpList_nil ?_
        refine hK43 _ _ ?_
        refine cF hF (by kernel_rfl) (by kernel_rfl) ?_
        refine wp_skip ?_
        refine hK42 _ _ ?_
        refine wp_exit ?_
        refine hK31 _ _ ?_
        refine wp_region_lit ?_
        refine wl (eP 207 (v0 := .int .i64 (IntKind.i64.wrap ((k1 : Int) + 1))) (v := .int .i64 ((k1 : Int) + 1)) hF (by kernel_rfl) (fun _ => by kernel_rfl) (wi (by omega)) fun a hF => ?_)
        refine sB 1 [(36, .int .i64 ((k1 : Int) + 1))] hF (by kernel_rfl) fun a hF => ?_
        refine wpList_nil ?_
        replace hM := hM.move 19 27 rfl (by decide)
        replace hM := hM.move 20 28 rfl (by decide)
        refine hK28 _ _ ⟨(k1 + 1, tn, pl, pm, AA23, cc23, AA24, cc24, tn, ml), ⟨(((((((Fr.nil hF).c hF (i := 35) rfl rfl).c hF (i := 34) rfl rfl).c hF (i := 7) rfl rfl).c hF (i := 5) rfl rfl).c hF (i := 36) rfl (vi (show ((k1 : Int) + 1 : Int) = ((k1 + 1) : Int) from by omega))).c hF (i := 8) rfl rfl), (hM.sub ((((((((((Sub.nil.c (k := 24) rfl rfl).c (k := 23) rfl rfl).c (k := 22) rfl rfl).c (k := 20) rfl rfl).c (k := 19) rfl rfl).c (k := 18) rfl rfl).c (k := 5) rfl rfl).c (k := 4) rfl rfl).c (k := 2) rfl rfl).c (k := 1) rfl rfl)), (show ((k1 + 1) : Int) ≤ (lsl_2.length : Int) from by omega), (show -1000 ≤ tn from by omega), (show flE la [[1, 200, 1000, 300, 4000]] tn pl pm = 0 from by exact fpl), (show WR 3 pm from by exact hpm), (show (pl.length : Int) = (la.length : Int) from by omega), (show (pm.length : Int) = 1 from by omega), (show 0 ≤ tn ∧ tn ≤ 65535 * ((k1 + 1) : Int) from by omega), (show tn ≤ tn from by omega), (show MOk la pl ml from by exact MOk.mono (by assumption) (once_mono (by omega) epl))⟩, (show lsl_2.length - (k1 + 1) < lsl_2.length - k1 from by omega)⟩
       ·skip
        have hom := once_m (by omega) epl
        have hom2 := hom.resolve_left hz19
        refine wp_region_lit ?_
        refine sB 1 [(83, .int .i64 pv)] hF (by kernel_rfl) fun a hF => ?_
        refine wl (eP 84 (v0 := .bool (!decide (pv = 0))) (v := .bool true) hF (by kernel_rfl) (fun _ => by kernel_rfl) (nF hz19) fun a hF => ?_)
        refine sB 2 [(85, .bool true), (86, .int .i64 pv)] hF (by kernel_rfl) fun a hF => ?_
        refine wl (eP 87 (v0 := .bool (!decide (pv = 5))) (v := .bool false) hF (by kernel_rfl) (fun _ => by kernel_rfl) (nT hom2.1) fun a hF => ?_)
        refine sB 2 [(88, .bool false), (89, .int .i64 po)] hF (by kernel_rfl) fun a hF => ?_
        refine wl (eP 90 (v0 := .bool (!decide (po = 1))) (v := .bool false) hF (by kernel_rfl) (fun _ => by kernel_rfl) (nT hom2.2) fun a hF => ?_)
        refine sB 2 [(91, .bool false), (92, .bool false)] hF (by kernel_rfl) fun a hF => ?_
        refine wpList_nil ?_
        refine hK43 _ _ ?_
        refine cF hF (by kernel_rfl) (by kernel_rfl) ?_
        refine wp_skip ?_
        refine hK42 _ _ ?_
        refine wp_exit ?_
        refine hK31 _ _ ?_
        refine wp_region_lit ?_
        refine wl (eP 207 (v0 := .int .i64 (IntKind.i64.wrap ((k1 : Int) + 1))) (v := .int .i64 ((k1 : Int) + 1)) hF (by kernel_rfl) (fun _ => by kernel_rfl) (wi (by omega)) fun a hF => ?_)
        refine sB 1 [(36, .int .i64 ((k1 : Int) + 1))] hF (by kernel_rfl) fun a hF => ?_
        refine wpList_nil ?_
        replace hM := hM.move 19 27 rfl (by decide)
        replace hM := hM.move 20 28 rfl (by decide)
        refine hK28 _ _ ⟨(k1 + 1, tn, pl, pm, AA23, cc23, AA24, cc24, tn, ml), ⟨(((((((Fr.nil hF).c hF (i := 35) rfl rfl).c hF (i := 34) rfl rfl).c hF (i := 7) rfl rfl).c hF (i := 5) rfl rfl).c hF (i := 36) rfl (vi (show ((k1 : Int) + 1 : Int) = ((k1 + 1) : Int) from by omega))).c hF (i := 8) rfl rfl), (hM.sub ((((((((((Sub.nil.c (k := 24) rfl rfl).c (k := 23) rfl rfl).c (k := 22) rfl rfl).c (k := 20) rfl rfl).c (k := 19) rfl rfl).c (k := 18) rfl rfl).c (k := 5) rfl rfl).c (k := 4) rfl rfl).c (k := 2) rfl rfl).c (k := 1) rfl rfl)), (show ((k1 + 1) : Int) ≤ (lsl_2.length : Int) from by omega), (show -1000 ≤ tn from by omega), (show flE la [[1, 200, 1000, 300, 4000]] tn pl pm = 0 from by exact fpl), (show WR 3 pm from by exact hpm), (show (pl.length : Int) = (la.length : Int) from by omega), (show (pm.length : Int) = 1 from by omega), (show 0 ≤ tn ∧ tn ≤ 65535 * ((k1 + 1) : Int) from by omega), (show tn ≤ tn from by omega), (show MOk la pl ml from by exact MOk.mono (by assumption) (once_mono (by omega) epl))⟩, (show lsl_2.length - (k1 + 1) < lsl_2.length - k1 from by omega)⟩
      ·skip
       replace hF := hF.c hF (i := 82) (v := .bool false) rfl (bF hz18)
       refine cF hF (by kernel_rfl) (by kernel_rfl) ?_
       refine wp_skip ?_
       refine hK39 _ _ ?_
       refine wp_seq_k fun K44 hK44 => ?_
       refine wp_seq_k fun K45 hK45 => ?_
       refine wp_region_lit ?_
       refine sB 2 [(93, .int .i64 (regI po it1 it3 la)), (94, .bool (decide (regI po it1 it3 la < 0)))] hF (by kernel_rfl) fun a hF => ?_
       refine wpList_nil ?_
       refine hK45 _ _ ?_
       by_cases hz20 : regI po it1 it3 la < 0
       ·skip
        replace hF := hF.c hF (i := 94) (v := .bool true) rfl (bT hz20)
        refine cT hF (by kernel_rfl) (by kernel_rfl) ?_
        refine wp_seq_k fun K46 hK46 => ?_
        refine wp_seq_k fun K47 hK47 => ?_
        have hou := once_u (by omega) hz20 epl
        refine wp_region_lit ?_
        refine sB 1 [(95, .int .i64 pv)] hF (by kernel_rfl) fun a hF => ?_
        refine wl (eP 96 (v0 := .bool (!decide (pv = 1))) (v := .bool false) hF (by kernel_rfl) (fun _ => by kernel_rfl) (nT hou) fun a hF => ?_)
        refine wpList_nil ?_
        refine hK47 _ _ ?_
        refine cF hF (by kernel_rfl) (by kernel_rfl) ?_
        refine wp_skip ?_
        refine hK46 _ _ ?_
        refine wp_exit ?_
        refine hK31 _ _ ?_
        refine wp_region_lit ?_
        refine wl (eP 207 (v0 := .int .i64 (IntKind.i64.wrap ((k1 : Int) + 1))) (v := .int .i64 ((k1 : Int) + 1)) hF (by kernel_rfl) (fun _ => by kernel_rfl) (wi (by omega)) fun a hF => ?_)
        refine sB 1 [(36, .int .i64 ((k1 : Int) + 1))] hF (by kernel_rfl) fun a hF => ?_
        refine wpList_nil ?_
        replace hM := hM.move 19 27 rfl (by decide)
        replace hM := hM.move 20 28 rfl (by decide)
        refine hK28 _ _ ⟨(k1 + 1, tn, pl, pm, AA23, cc23, AA24, cc24, tn, ml), ⟨(((((((Fr.nil hF).c hF (i := 35) rfl rfl).c hF (i := 34) rfl rfl).c hF (i := 7) rfl rfl).c hF (i := 5) rfl rfl).c hF (i := 36) rfl (vi (show ((k1 : Int) + 1 : Int) = ((k1 + 1) : Int) from by omega))).c hF (i := 8) rfl rfl), (hM.sub ((((((((((Sub.nil.c (k := 24) rfl rfl).c (k := 23) rfl rfl).c (k := 22) rfl rfl).c (k := 20) rfl rfl).c (k := 19) rfl rfl).c (k := 18) rfl rfl).c (k := 5) rfl rfl).c (k := 4) rfl rfl).c (k := 2) rfl rfl).c (k := 1) rfl rfl)), (show ((k1 + 1) : Int) ≤ (lsl_2.length : Int) from by omega), (show -1000 ≤ tn from by omega), (show flE la [[1, 200, 1000, 300, 4000]] tn pl pm = 0 from by exact fpl), (show WR 3 pm from by exact hpm), (show (pl.length : Int) = (la.length : Int) from by omega), (show (pm.length : Int) = 1 from by omega), (show 0 ≤ tn ∧ tn ≤ 65535 * ((k1 + 1) : Int) from by omega), (show tn ≤ tn from by omega), (show MOk la pl ml from by exact MOk.mono (by assumption) (once_mono (by omega) epl))⟩, (show lsl_2.length - (k1 + 1) < lsl_2.length - k1 from by omega)⟩
       ·skip
        replace hF := hF.c hF (i := 94) (v := .bool false) rfl (bF hz20)
        refine cF hF (by kernel_rfl) (by kernel_rfl) ?_
        refine wp_skip ?_
        refine hK44 _ _ ?_
        refine wp_seq_k fun K48 hK48 => ?_
        refine wp_seq_k fun K49 hK49 => ?_
        obtain ⟨kk, hkk, hklt, hkr, hkn⟩ := reg_pos hz20
        rw [hkk] at hF
        have hper := va_per fpl hklt
        by_cases hz21 : rc la kk 2 = 6
        ·skip
         refine wp_region_lit ?_
         refine sB 2 [(97, .int .i64 (kk : Int)), (98, .pointer (some ⟨bb19, 0, none⟩))] hF (by kernel_rfl) fun a hF => ?_
         refine wl (eL 99 22 0 (v := .slice G la.length gc) hF hM (by kernel_rfl) rfl rfl (by kernel_rfl) (by kernel_rfl) fun a w hF hM => ?_)
         refine sB 1 [(100, .int .i64 (la.length : Int))] hF (by kernel_rfl) fun a hF => ?_
         refine wl (eP 101 (v0 := .bool (decide ((la.length : Int) ≤ (kk : Int)))) (v := .bool false) hF (by kernel_rfl) (fun _ => by kernel_rfl) (bF (by omega)) fun a hF => ?_)
         refine sB 2 [(102, .bool false), (103, .pointer (some ⟨bb19, 0, none⟩))] hF (by kernel_rfl) fun a hF => ?_
         refine wl (eL 104 22 0 (v := .slice G la.length gc) hF hM (by kernel_rfl) rfl rfl (by kernel_rfl) (by kernel_rfl) fun a w hF hM => ?_)
         refine sB 1 [(105, .int .i64 (kk : Int))] hF (by kernel_rfl) fun a hF => ?_
         refine wl (eM 106 (v := .pointer (some (ea G (kk * 7)))) hF hM (by kernel_rfl) (yld_ix (kd := .i64) (e := 57) (len := la.length) (cap := gc) (i := (kk : Int)) (size := 7) (A := G) hF rfl (by kernel_rfl) (by kernel_rfl) (by kernel_rfl) (by kernel_rfl) (by kernel_rfl) (roO 5 rfl) (by omega) (by omega) (by rw [flatR_length hWla]; (try simp only [List.length_map, List.length_append, List.length_replicate, List.length_set, List.length_cons, List.length_nil, flat2_length, List.length_take]); omega)) fun a w hF hM => ?_)
         refine sB 1 [(107, .pointer (some (ea G (kk * 7 + 4))))] hF (by kernel_rfl) fun a hF => ?_
         refine wl (eM 108 (v := .int .i64 (rc la kk 4)) hF hM (by kernel_rfl) (yld_ro1 (A := G) (j := kk * 7 + 4) hF rfl (by kernel_rfl) (by kernel_rfl) (roO 5 rfl) (by kernel_rfl) (rc_at (k := kk) (i := 4) hWla (by omega) (by decide))) fun a w hF hM => ?_)
         refine wl (eP 109 (v0 := .bool (decide (rc la kk 4 < 1))) (v := .bool true) hF (by kernel_rfl) (fun _ => by kernel_rfl) (bT (by omega)) fun a hF => ?_)
         refine sB 2 [(110, .bool true), (111, .pointer (some ⟨bb19, 0, none⟩))] hF (by kernel_rfl) fun a hF => ?_
         refine wl (eL 112 22 0 (v := .slice G la.length gc) hF hM (by kernel_rfl) rfl rfl (by kernel_rfl) (by kernel_rfl) fun a w hF hM => ?_)
         refine sB 1 [(113, .int .i64 (kk : Int))] hF (by kernel_rfl) fun a hF => ?_
         refine wl (eM 114 (v := .pointer (some (ea G (kk * 7)))) hF hM (by kernel_rfl) (yld_ix (kd := .i64) (e := 57) (len := la.length) (cap := gc) (i := (kk : Int)) (size := 7) (A := G) hF rfl (by kernel_rfl) (by kernel_rfl) (by kernel_rfl) (by kernel_rfl) (by kernel_rfl) (roO 5 rfl) (by omega) (by omega) (by rw [flatR_length hWla]; (try simp only [List.length_map, List.length_append, List.length_replicate, List.length_set, List.length_cons, List.length_nil, flat2_length, List.length_take]); omega)) fun a w hF hM => ?_)
         refine sB 1 [(115, .pointer (some (ea G (kk * 7 + 2))))] hF (by kernel_rfl) fun a hF => ?_
         refine wl (eM 116 (v := .int .i64 (rc la kk 2)) hF hM (by kernel_rfl) (yld_ro1 (A := G) (j := kk * 7 + 2) hF rfl (by kernel_rfl) (by kernel_rfl) (roO 5 rfl) (by kernel_rfl) (rc_at (k := kk) (i := 2) hWla (by omega) (by decide))) fun a w hF hM => ?_)
         refine wl (eP 117 (v0 := .bool (!decide (rc la kk 2 = 6))) (v := .bool false) hF (by kernel_rfl) (fun _ => by kernel_rfl) (nT hz21) fun a hF => ?_)
         refine sB 2 [(118, .bool false), (119, .bool false)] hF (by kernel_rfl) fun a hF => ?_
         refine wpList_nil ?_
         refine hK49 _ _ ?_
         refine cF hF (by kernel_rfl) (by kernel_rfl) ?_
         refine wp_skip ?_
         refine hK48 _ _ ?_
         refine wp_seq_k fun K50 hK50 => ?_
         refine wp_region_lit ?_
         refine sB 1 [(120, .pointer (some ⟨bb19, 0, none⟩))] hF (by kernel_rfl) fun a hF => ?_
         refine wl (eL 121 22 0 (v := .slice G la.length gc) hF hM (by kernel_rfl) rfl rfl (by kernel_rfl) (by kernel_rfl) fun a w hF hM => ?_)
         refine sB 1 [(122, .int .i64 (kk : Int))] hF (by kernel_rfl) fun a hF => ?_
         refine wl (eM 123 (v := .pointer (some (ea G (kk * 7)))) hF hM (by kernel_rfl) (yld_ix (kd := .i64) (e := 57) (len := la.length) (cap := gc) (i := (kk : Int)) (size := 7) (A := G) hF rfl (by kernel_rfl) (by kernel_rfl) (by kernel_rfl) (by kernel_rfl) (by kernel_rfl) (roO 5 rfl) (by omega) (by omega) (by rw [flatR_length hWla]; (try simp only [List.length_map, List.length_append, List.length_replicate, List.length_set, List.length_cons, List.length_nil, flat2_length, List.length_take]); omega)) fun a w hF hM => ?_)
         refine wl (eM 124 (v := .agg #[.int .i64 (rc la kk 0), .int .i64 (rc la kk 1), .int .i64 (rc la kk 2), .int .i64 (rc la kk 3), .int .i64 (rc la kk 4), .int .i64 (rc la kk 5), .int .i64 (rc la kk 6)]) hF hM (by kernel_rfl) (yld_roM (A := G) (j := kk * 7) (us := [.int .i64 (rc la kk 0), .int .i64 (rc la kk 1), .int .i64 (rc la kk 2), .int .i64 (rc la kk 3), .int .i64 (rc la kk 4), .int .i64 (rc la kk 5), .int .i64 (rc la kk 6)]) hF rfl (by kernel_rfl) (by kernel_rfl) (roO 5 rfl) (by kernel_rfl) rfl (rc_sub (k := kk) (f := 0) (m := 7) hWla (by omega) (by decide) rfl)) fun a w hF hM => ?_)
         refine wl (eN 18 30 (t := 57) (fun b => .pointer (some ⟨b, 0, none⟩)) #[.int .i64 0, .int .i64 0, .int .i64 0, .int .i64 0, .int .i64 0, .int .i64 0, .int .i64 0] hF hM (by kernel_rfl) (fun _ => by kernel_rfl) fun bb26 a w hF hM => ?_)
         refine wl (sStore (i := 30) (off := 0) (cs' := #[.int .i64 (rc la kk 0), .int .i64 (rc la kk 1), .int .i64 (rc la kk 2), .int .i64 (rc la kk 3), .int .i64 (rc la kk 4), .int .i64 (rc la kk 5), .int .i64 (rc la kk 6)]) hF hM (by kernel_rfl) rfl rfl (by kernel_rfl) (by kernel_rfl) rfl (by kernel_rfl) fun w hM => ?_)
         refine wpList_nil ?_
         refine hK50 _ _ ?_
         refine wp_seq_k fun K51 hK51 => ?_
         refine wp_seq_k fun K52 hK52 => ?_
         refine wp_region_lit ?_
         refine sB 2 [(125, .int .i64 pv), (126, .bool (!decide (pv = 0)))] hF (by kernel_rfl) fun a hF => ?_
         refine wpList_nil ?_
         refine hK52 _ _ ?_
         by_cases hz22 : pv = 0
         ·skip
          replace hF := hF.c hF (i := 126) (v := .bool false) rfl (nT hz22)
          refine cF hF (by kernel_rfl) (by kernel_rfl) ?_
          refine wp_skip ?_
          refine hK51 _ _ ?_
          refine wp_seq_k fun K53 hK53 => ?_
          refine wp_seq_k fun K54 hK54 => ?_
          have hon0 := once_r (by omega) hkk epl hz22
          have hon := hon0.resolve_right (fun q => q.1 hz21)
          refine wp_region_lit ?_
          refine sB 1 [(127, .pointer (some ⟨bb26, 0, none⟩))] hF (by kernel_rfl) fun a hF => ?_
          refine wl (eL 128 30 0 (v := .int .i64 (rc la kk 0)) hF hM (by kernel_rfl) rfl rfl (by kernel_rfl) (by kernel_rfl) fun a w hF hM => ?_)
          refine sB 1 [(129, .int .i64 po)] hF (by kernel_rfl) fun a hF => ?_
          refine wl (eP 130 (v0 := .bool (!decide (rc la kk 0 = po))) (v := .bool false) hF (by kernel_rfl) (fun _ => by kernel_rfl) (nT (by omega)) fun a hF => ?_)
          refine sB 2 [(131, .bool false), (132, .pointer (some ⟨bb26, 1, none⟩))] hF (by kernel_rfl) fun a hF => ?_
          refine wl (eL 133 30 1 (v := .int .i64 (rc la kk 1)) hF hM (by kernel_rfl) rfl rfl (by kernel_rfl) (by kernel_rfl) fun a w hF hM => ?_)
          refine sB 1 [(134, .pointer (some ⟨bb22, 0, none⟩))] hF (by kernel_rfl) fun a hF => ?_
          refine wl (eL 135 26 0 (v := .int .i64 it1) hF hM (by kernel_rfl) rfl rfl (by kernel_rfl) (by kernel_rfl) fun a w hF hM => ?_)
          refine wl (eP 136 (v0 := .bool (!decide (rc la kk 1 = it1))) (v := .bool false) hF (by kernel_rfl) (fun _ => by kernel_rfl) (nT (by omega)) fun a hF => ?_)
          refine sB 3 [(137, .bool false), (138, .bool false), (139, .pointer (some ⟨bb26, 2, none⟩))] hF (by kernel_rfl) fun a hF => ?_
          refine wl (eL 140 30 2 (v := .int .i64 (rc la kk 2)) hF hM (by kernel_rfl) rfl rfl (by kernel_rfl) (by kernel_rfl) fun a w hF hM => ?_)
          refine sB 1 [(141, .pointer (some ⟨bb22, 2, none⟩))] hF (by kernel_rfl) fun a hF => ?_
          refine wl (eL 142 26 2 (v := .int .i64 it3) hF hM (by kernel_rfl) rfl rfl (by kernel_rfl) (by kernel_rfl) fun a w hF hM => ?_)
          refine wl (eP 143 (v0 := .bool (!decide (rc la kk 2 = it3))) (v := .bool false) hF (by kernel_rfl) (fun _ => by kernel_rfl) (nT (by omega)) fun a hF => ?_)
          refine sB 3 [(144, .bool false), (145, .bool false), (146, .pointer (some ⟨bb22, 3, none⟩))] hF (by kernel_rfl) fun a hF => ?_
          refine wl (eL 147 26 3 (v := .int .i64 it4) hF hM (by kernel_rfl) rfl rfl (by kernel_rfl) (by kernel_rfl) fun a w hF hM => ?_)
          refine sB 1 [(148, .pointer (some ⟨bb26, 3, none⟩))] hF (by kernel_rfl) fun a hF => ?_
          refine wl (eL 149 30 3 (v := .int .i64 (rc la kk 3)) hF hM (by kernel_rfl) rfl rfl (by kernel_rfl) (by kernel_rfl) fun a w hF hM => ?_)
          refine wl (eP 150 (v0 := .bool (decide (rc la kk 3 < it4))) (v := .bool false) hF (by kernel_rfl) (fun _ => by kernel_rfl) (bF (by omega)) fun a hF => ?_)
          refine sB 1 [(151, .bool false)] hF (by kernel_rfl) fun a hF => ?_
          refine wpList_nil ?_
          refine hK54 _ _ ?_
          refine cF hF (by kernel_rfl) (by kernel_rfl) ?_
          refine wp_skip ?_
          refine hK53 _ _ ?_
          refine wp_seq_k fun K55 hK55 => ?_
          refine wp_seq_k fun K56 hK56 => ?_
          refine wp_region_lit ?_
          refine sB 1 [(152, .pointer (some ⟨bb22, 2, none⟩))] hF (by kernel_rfl) fun a hF => ?_
          refine wl (eL 153 26 2 (v := .int .i64 it3) hF hM (by kernel_rfl) rfl rfl (by kernel_rfl) (by kernel_rfl) fun a w hF hM => ?_)
          refine wl (eP 154 (v0 := .bool (decide (it3 = 6))) (v := .bool true) hF (by kernel_rfl) (fun _ => by kernel_rfl) (bT (by omega)) fun a hF => ?_)
          refine wpList_nil ?_
          refine hK56 _ _ ?_
          refine cT hF (by kernel_rfl) (by kernel_rfl) ?_
          refine wp_exit ?_
          refine hK31 _ _ ?_
          refine wp_region_lit ?_
          refine wl (eP 207 (v0 := .int .i64 (IntKind.i64.wrap ((k1 : Int) + 1))) (v := .int .i64 ((k1 : Int) + 1)) hF (by kernel_rfl) (fun _ => by kernel_rfl) (wi (by omega)) fun a hF => ?_)
          refine sB 1 [(36, .int .i64 ((k1 : Int) + 1))] hF (by kernel_rfl) fun a hF => ?_
          refine wpList_nil ?_
          replace hM := hM.move 19 27 rfl (by decide)
          replace hM := hM.move 20 28 rfl (by decide)
          refine hK28 _ _ ⟨(k1 + 1, tn, pl, pm, AA23, cc23, AA24, cc24, tn, ml), ⟨(((((((Fr.nil hF).c hF (i := 35) rfl rfl).c hF (i := 34) rfl rfl).c hF (i := 7) rfl rfl).c hF (i := 5) rfl rfl).c hF (i := 36) rfl (vi (show ((k1 : Int) + 1 : Int) = ((k1 + 1) : Int) from by omega))).c hF (i := 8) rfl rfl), (hM.sub ((((((((((Sub.nil.c (k := 24) rfl rfl).c (k := 23) rfl rfl).c (k := 22) rfl rfl).c (k := 20) rfl rfl).c (k := 19) rfl rfl).c (k := 18) rfl rfl).c (k := 5) rfl rfl).c (k := 4) rfl rfl).c (k := 2) rfl rfl).c (k := 1) rfl rfl)), (show ((k1 + 1) : Int) ≤ (lsl_2.length : Int) from by omega), (show -1000 ≤ tn from by omega), (show flE la [[1, 200, 1000, 300, 4000]] tn pl pm = 0 from by exact fpl), (show WR 3 pm from by exact hpm), (show (pl.length : Int) = (la.length : Int) from by omega), (show (pm.length : Int) = 1 from by omega), (show 0 ≤ tn ∧ tn ≤ 65535 * ((k1 + 1) : Int) from by omega), (show tn ≤ tn from by omega), (show MOk la pl ml from by exact MOk.mono (by assumption) (once_mono (by omega) epl))⟩, (show lsl_2.length - (k1 + 1) < lsl_2.length - k1 from by omega)⟩
         ·skip
          replace hF := hF.c hF (i := 126) (v := .bool true) rfl (nF hz22)
          refine cT hF (by kernel_rfl) (by kernel_rfl) ?_
          refine wp_exit ?_
          refine hK31 _ _ ?_
          refine wp_region_lit ?_
          refine wl (eP 207 (v0 := .int .i64 (IntKind.i64.wrap ((k1 : Int) + 1))) (v := .int .i64 ((k1 : Int) + 1)) hF (by kernel_rfl) (fun _ => by kernel_rfl) (wi (by omega)) fun a hF => ?_)
          refine sB 1 [(36, .int .i64 ((k1 : Int) + 1))] hF (by kernel_rfl) fun a hF => ?_
          refine wpList_nil ?_
          replace hM := hM.move 19 27 rfl (by decide)
          replace hM := hM.move 20 28 rfl (by decide)
          refine hK28 _ _ ⟨(k1 + 1, tn, pl, pm, AA23, cc23, AA24, cc24, tn, ml), ⟨(((((((Fr.nil hF).c hF (i := 35) rfl rfl).c hF (i := 34) rfl rfl).c hF (i := 7) rfl rfl).c hF (i := 5) rfl rfl).c hF (i := 36) rfl (vi (show ((k1 : Int) + 1 : Int) = ((k1 + 1) : Int) from by omega))).c hF (i := 8) rfl rfl), (hM.sub ((((((((((Sub.nil.c (k := 24) rfl rfl).c (k := 23) rfl rfl).c (k := 22) rfl rfl).c (k := 20) rfl rfl).c (k := 19) rfl rfl).c (k := 18) rfl rfl).c (k := 5) rfl rfl).c (k := 4) rfl rfl).c (k := 2) rfl rfl).c (k := 1) rfl rfl)), (show ((k1 + 1) : Int) ≤ (lsl_2.length : Int) from by omega), (show -1000 ≤ tn from by omega), (show flE la [[1, 200, 1000, 300, 4000]] tn pl pm = 0 from by exact fpl), (show WR 3 pm from by exact hpm), (show (pl.length : Int) = (la.length : Int) from by omega), (show (pm.length : Int) = 1 from by omega), (show 0 ≤ tn ∧ tn ≤ 65535 * ((k1 + 1) : Int) from by omega), (show tn ≤ tn from by omega), (show MOk la pl ml from by exact MOk.mono (by assumption) (once_mono (by omega) epl))⟩, (show lsl_2.length - (k1 + 1) < lsl_2.length - k1 from by omega)⟩
        ·skip
         refine wp_region_lit ?_
         refine sB 2 [(97, .int .i64 (kk : Int)), (98, .pointer (some ⟨bb19, 0, none⟩))] hF (by kernel_rfl) fun a hF => ?_
         refine wl (eL 99 22 0 (v := .slice G la.length gc) hF hM (by kernel_rfl) rfl rfl (by kernel_rfl) (by kernel_rfl) fun a w hF hM => ?_)
         refine sB 1 [(100, .int .i64 (la.length : Int))] hF (by kernel_rfl) fun a hF => ?_
         refine wl (eP 101 (v0 := .bool (decide ((la.length : Int) ≤ (kk : Int)))) (v := .bool false) hF (by kernel_rfl) (fun _ => by kernel_rfl) (bF (by omega)) fun a hF => ?_)
         refine sB 2 [(102, .bool false), (103, .pointer (some ⟨bb19, 0, none⟩))] hF (by kernel_rfl) fun a hF => ?_
         refine wl (eL 104 22 0 (v := .slice G la.length gc) hF hM (by kernel_rfl) rfl rfl (by kernel_rfl) (by kernel_rfl) fun a w hF hM => ?_)
         refine sB 1 [(105, .int .i64 (kk : Int))] hF (by kernel_rfl) fun a hF => ?_
         refine wl (eM 106 (v := .pointer (some (ea G (kk * 7)))) hF hM (by kernel_rfl) (yld_ix (kd := .i64) (e := 57) (len := la.length) (cap := gc) (i := (kk : Int)) (size := 7) (A := G) hF rfl (by kernel_rfl) (by kernel_rfl) (by kernel_rfl) (by kernel_rfl) (by kernel_rfl) (roO 5 rfl) (by omega) (by omega) (by rw [flatR_length hWla]; (try simp only [List.length_map, List.length_append, List.length_replicate, List.length_set, List.length_cons, List.length_nil, flat2_length, List.length_take]); omega)) fun a w hF hM => ?_)
         refine sB 1 [(107, .pointer (some (ea G (kk * 7 + 4))))] hF (by kernel_rfl) fun a hF => ?_
         refine wl (eM 108 (v := .int .i64 (rc la kk 4)) hF hM (by kernel_rfl) (yld_ro1 (A := G) (j := kk * 7 + 4) hF rfl (by kernel_rfl) (by kernel_rfl) (roO 5 rfl) (by kernel_rfl) (rc_at (k := kk) (i := 4) hWla (by omega) (by decide))) fun a w hF hM => ?_)
         refine wl (eP 109 (v0 := .bool (decide (rc la kk 4 < 1))) (v := .bool false) hF (by kernel_rfl) (fun _ => by kernel_rfl) (bF (by omega)) fun a hF => ?_)
         refine sB 10 [(110, .bool false), (111, undef), (112, undef), (113, undef), (114, undef), (115, undef), (116, undef), (117, undef), (118, .bool false), (119, .bool false)] hF (by kernel_rfl) fun a hF => ?_
         refine wpList_nil ?_
         refine hK49 _ _ ?_
         refine cF hF (by kernel_rfl) (by kernel_rfl) ?_
         refine wp_skip ?_
         refine hK48 _ _ ?_
         refine wp_seq_k fun K57 hK57 => ?_
         refine wp_region_lit ?_
         refine sB 1 [(120, .pointer (some ⟨bb19, 0, none⟩))] hF (by kernel_rfl) fun a hF => ?_
         refine wl (eL 121 22 0 (v := .slice G la.length gc) hF hM (by kernel_rfl) rfl rfl (by kernel_rfl) (by kernel_rfl) fun a w hF hM => ?_)
         refine sB 1 [(122, .int .i64 (kk : Int))] hF (by kernel_rfl) fun a hF => ?_
         refine wl (eM 123 (v := .pointer (some (ea G (kk * 7)))) hF hM (by kernel_rfl) (yld_ix (kd := .i64) (e := 57) (len := la.length) (cap := gc) (i := (kk : Int)) (size := 7) (A := G) hF rfl (by kernel_rfl) (by kernel_rfl) (by kernel_rfl) (by kernel_rfl) (by kernel_rfl) (roO 5 rfl) (by omega) (by omega) (by rw [flatR_length hWla]; (try simp only [List.length_map, List.length_append, List.length_replicate, List.length_set, List.length_cons, List.length_nil, flat2_length, List.length_take]); omega)) fun a w hF hM => ?_)
         refine wl (eM 124 (v := .agg #[.int .i64 (rc la kk 0), .int .i64 (rc la kk 1), .int .i64 (rc la kk 2), .int .i64 (rc la kk 3), .int .i64 (rc la kk 4), .int .i64 (rc la kk 5), .int .i64 (rc la kk 6)]) hF hM (by kernel_rfl) (yld_roM (A := G) (j := kk * 7) (us := [.int .i64 (rc la kk 0), .int .i64 (rc la kk 1), .int .i64 (rc la kk 2), .int .i64 (rc la kk 3), .int .i64 (rc la kk 4), .int .i64 (rc la kk 5), .int .i64 (rc la kk 6)]) hF rfl (by kernel_rfl) (by kernel_rfl) (roO 5 rfl) (by kernel_rfl) rfl (rc_sub (k := kk) (f := 0) (m := 7) hWla (by omega) (by decide) rfl)) fun a w hF hM => ?_)
         refine wl (eN 18 31 (t := 57) (fun b => .pointer (some ⟨b, 0, none⟩)) #[.int .i64 0, .int .i64 0, .int .i64 0, .int .i64 0, .int .i64 0, .int .i64 0, .int .i64 0] hF hM (by kernel_rfl) (fun _ => by kernel_rfl) fun bb27 a w hF hM => ?_)
         refine wl (sStore (i := 31) (off := 0) (cs' := #[.int .i64 (rc la kk 0), .int .i64 (rc la kk 1), .int .i64 (rc la kk 2), .int .i64 (rc la kk 3), .int .i64 (rc la kk 4), .int .i64 (rc la kk 5), .int .i64 (rc la kk 6)]) hF hM (by kernel_rfl) rfl rfl (by kernel_rfl) (by kernel_rfl) rfl (by kernel_rfl) fun w hM => ?_)
         refine wpList_nil ?_
         refine hK57 _ _ ?_
         refine wp_seq_k fun K58 hK58 => ?_
         refine wp_seq_k fun K59 hK59 => ?_
         refine wp_region_lit ?_
         refine sB 2 [(125, .int .i64 pv), (126, .bool (!decide (pv = 0)))] hF (by kernel_rfl) fun a hF => ?_
         refine wpList_nil ?_
         refine hK59 _ _ ?_
         by_cases hz23 : pv = 0
         ·skip
          replace hF := hF.c hF (i := 126) (v := .bool false) rfl (nT hz23)
          refine cF hF (by kernel_rfl) (by kernel_rfl) ?_
          refine wp_skip ?_
          refine hK58 _ _ ?_
          refine wp_seq_k fun K60 hK60 => ?_
          refine wp_seq_k fun K61 hK61 => ?_
          have hon0 := once_r (by omega) hkk epl hz23
          have hon := hon0.resolve_left (fun q => hz21 q.1)
          have hge := div_ge (by omega) hon.2.2.1
          have hsp := sch_pos0 hge (show 0 < rc la kk 4 by omega)
          obtain ⟨kq, hkq⟩ : ∃ z : Int, (tn - rc la kk 5) / rc la kk 4 = z := ⟨_, rfl⟩
          obtain ⟨nm, hnm⟩ : ∃ z : Int, kq * rc la kk 4 = z := ⟨_, rfl⟩
          rw [hkq, hnm] at hsp
          have hlate := hon.2.2.2.1
          rw [hsp.2.2.1] at hlate
          have hnt := hon.2.2.2.2.1
          rw [hkq] at hnt
          have habs := MOk.absent (kk := kk) (q := kq) hmok hnt
          refine wp_region_lit ?_
          refine sB 1 [(127, .pointer (some ⟨bb27, 0, none⟩))] hF (by kernel_rfl) fun a hF => ?_
          refine wl (eL 128 31 0 (v := .int .i64 (rc la kk 0)) hF hM (by kernel_rfl) rfl rfl (by kernel_rfl) (by kernel_rfl) fun a w hF hM => ?_)
          refine sB 1 [(129, .int .i64 po)] hF (by kernel_rfl) fun a hF => ?_
          refine wl (eP 130 (v0 := .bool (!decide (rc la kk 0 = po))) (v := .bool false) hF (by kernel_rfl) (fun _ => by kernel_rfl) (nT (by omega)) fun a hF => ?_)
          refine sB 2 [(131, .bool false), (132, .pointer (some ⟨bb27, 1, none⟩))] hF (by kernel_rfl) fun a hF => ?_
          refine wl (eL 133 31 1 (v := .int .i64 (rc la kk 1)) hF hM (by kernel_rfl) rfl rfl (by kernel_rfl) (by kernel_rfl) fun a w hF hM => ?_)
          refine sB 1 [(134, .pointer (some ⟨bb22, 0, none⟩))] hF (by kernel_rfl) fun a hF => ?_
          refine wl (eL 135 26 0 (v := .int .i64 it1) hF hM (by kernel_rfl) rfl rfl (by kernel_rfl) (by kernel_rfl) fun a w hF hM => ?_)
          refine wl (eP 136 (v0 := .bool (!decide (rc la kk 1 = it1))) (v := .bool false) hF (by kernel_rfl) (fun _ => by kernel_rfl) (nT (by omega)) fun a hF => ?_)
          refine sB 3 [(137, .bool false), (138, .bool false), (139, .pointer (some ⟨bb27, 2, none⟩))] hF (by kernel_rfl) fun a hF => ?_
          refine wl (eL 140 31 2 (v := .int .i64 (rc la kk 2)) hF hM (by kernel_rfl) rfl rfl (by kernel_rfl) (by kernel_rfl) fun a w hF hM => ?_)
          refine sB 1 [(141, .pointer (some ⟨bb22, 2, none⟩))] hF (by kernel_rfl) fun a hF => ?_
          refine wl (eL 142 26 2 (v := .int .i64 it3) hF hM (by kernel_rfl) rfl rfl (by kernel_rfl) (by kernel_rfl) fun a w hF hM => ?_)
          refine wl (eP 143 (v0 := .bool (!decide (rc la kk 2 = it3))) (v := .bool false) hF (by kernel_rfl) (fun _ => by kernel_rfl) (nT (by omega)) fun a hF => ?_)
          refine sB 3 [(144, .bool false), (145, .bool false), (146, .pointer (some ⟨bb22, 3, none⟩))] hF (by kernel_rfl) fun a hF => ?_
          refine wl (eL 147 26 3 (v := .int .i64 it4) hF hM (by kernel_rfl) rfl rfl (by kernel_rfl) (by kernel_rfl) fun a w hF hM => ?_)
          refine sB 1 [(148, .pointer (some ⟨bb27, 3, none⟩))] hF (by kernel_rfl) fun a hF => ?_
          refine wl (eL 149 31 3 (v := .int .i64 (rc la kk 3)) hF hM (by kernel_rfl) rfl rfl (by kernel_rfl) (by kernel_rfl) fun a w hF hM => ?_)
          refine wl (eP 150 (v0 := .bool (decide (rc la kk 3 < it4))) (v := .bool false) hF (by kernel_rfl) (fun _ => by kernel_rfl) (bF (by omega)) fun a hF => ?_)
          refine sB 1 [(151, .bool false)] hF (by kernel_rfl) fun a hF => ?_
          refine wpList_nil ?_
          refine hK61 _ _ ?_
          refine cF hF (by kernel_rfl) (by kernel_rfl) ?_
          refine wp_skip ?_
          refine hK60 _ _ ?_
          refine wp_seq_k fun K62 hK62 => ?_
          refine wp_seq_k fun K63 hK63 => ?_
          refine wp_region_lit ?_
          refine sB 1 [(152, .pointer (some ⟨bb22, 2, none⟩))] hF (by kernel_rfl) fun a hF => ?_
          refine wl (eL 153 26 2 (v := .int .i64 it3) hF hM (by kernel_rfl) rfl rfl (by kernel_rfl) (by kernel_rfl) fun a w hF hM => ?_)
          refine wl (eP 154 (v0 := .bool (decide (it3 = 6))) (v := .bool false) hF (by kernel_rfl) (fun _ => by kernel_rfl) (bF (by omega)) fun a hF => ?_)
          refine wpList_nil ?_
          refine hK63 _ _ ?_
          refine cF hF (by kernel_rfl) (by kernel_rfl) ?_
          refine wp_skip ?_
          refine hK62 _ _ ?_
          refine wp_seq_k fun K64 hK64 => ?_
          refine wp_region_lit ?_
          refine sB 2 [(155, .int .i64 tn), (156, .pointer (some ⟨bb27, 5, none⟩))] hF (by kernel_rfl) fun a hF => ?_
          refine wl (eL 157 31 5 (v := .int .i64 (rc la kk 5)) hF hM (by kernel_rfl) rfl rfl (by kernel_rfl) (by kernel_rfl) fun a w hF hM => ?_)
          refine wl (eP 158 (v0 := .int .i64 (IntKind.i64.wrap (tn - rc la kk 5))) (v := .int .i64 (tn - rc la kk 5)) hF (by kernel_rfl) (fun _ => by kernel_rfl) (wi (by omega)) fun a hF => ?_)
          refine sB 1 [(159, .pointer (some ⟨bb27, 4, none⟩))] hF (by kernel_rfl) fun a hF => ?_
          refine wl (eL 160 31 4 (v := .int .i64 (rc la kk 4)) hF hM (by kernel_rfl) rfl rfl (by kernel_rfl) (by kernel_rfl) fun a w hF hM => ?_)
          have hkq0 := hsp.2.2.2
          refine wl (eM 161 (v := .int .i64 kq) hF hM (by kernel_rfl) (yld_quo (tn - rc la kk 5) (rc la kk 4) hF rfl (by kernel_rfl) (by kernel_rfl) (by kernel_rfl) (by omega) ((qpos_i64 (by omega) (by omega) (by omega)).trans hkq)) fun a w hF hM => ?_)
          refine sB 1 [(19, .int .i64 kq)] hF (by kernel_rfl) fun a hF => ?_
          refine wpList_nil ?_
          refine hK64 _ _ ?_
          refine wp_seq_k fun K65 hK65 => ?_
          refine wp_seq_k fun K66 hK66 => ?_
          refine wp_region_lit ?_
          refine sB 1 [(162, .pointer (some ⟨bb22, 3, none⟩))] hF (by kernel_rfl) fun a hF => ?_
          refine wl (eL 163 26 3 (v := .int .i64 it4) hF hM (by kernel_rfl) rfl rfl (by kernel_rfl) (by kernel_rfl) fun a w hF hM => ?_)
          refine sB 1 [(164, .pointer (some ⟨bb27, 3, none⟩))] hF (by kernel_rfl) fun a hF => ?_
          refine wl (eL 165 31 3 (v := .int .i64 (rc la kk 3)) hF hM (by kernel_rfl) rfl rfl (by kernel_rfl) (by kernel_rfl) fun a w hF hM => ?_)
          refine wl (eP 166 (v0 := .bool (!decide (it4 = rc la kk 3))) (v := .bool false) hF (by kernel_rfl) (fun _ => by kernel_rfl) (nT (by omega)) fun a hF => ?_)
          refine sB 3 [(167, .bool false), (168, .int .i64 tn), (169, .pointer (some ⟨bb27, 5, none⟩))] hF (by kernel_rfl) fun a hF => ?_
          refine wl (eL 170 31 5 (v := .int .i64 (rc la kk 5)) hF hM (by kernel_rfl) rfl rfl (by kernel_rfl) (by kernel_rfl) fun a w hF hM => ?_)
          refine sB 2 [(171, .int .i64 kq), (172, .pointer (some ⟨bb27, 4, none⟩))] hF (by kernel_rfl) fun a hF => ?_
          refine wl (eL 173 31 4 (v := .int .i64 (rc la kk 4)) hF hM (by kernel_rfl) rfl rfl (by kernel_rfl) (by kernel_rfl) fun a w hF hM => ?_)
          have hnm0 := hsp
          have hnm1 : 0 ≤ nm := by rw [← hnm]; exact Int.mul_nonneg hsp.2.2.2 (by omega)
          refine wl (eP 174 (v0 := .int .i64 (IntKind.i64.wrap (kq * rc la kk 4))) (v := .int .i64 nm) hF (by kernel_rfl) (fun _ => by kernel_rfl) (vi (by rw [w64 (by omega)]; exact hnm)) fun a hF => ?_)
          refine wl (eP 175 (v0 := .int .i64 (IntKind.i64.wrap (rc la kk 5 + nm))) (v := .int .i64 (rc la kk 5 + nm)) hF (by kernel_rfl) (fun _ => by kernel_rfl) (wi (by omega)) fun a hF => ?_)
          refine wl (eP 176 (v0 := .bool (decide (tn < rc la kk 5 + nm))) (v := .bool false) hF (by kernel_rfl) (fun _ => by kernel_rfl) (bF (by omega)) fun a hF => ?_)
          refine sB 4 [(177, .bool false), (178, .bool false), (179, .int .i64 tn), (180, .pointer (some ⟨bb27, 6, none⟩))] hF (by kernel_rfl) fun a hF => ?_
          refine wl (eL 181 31 6 (v := .int .i64 (rc la kk 6)) hF hM (by kernel_rfl) rfl rfl (by kernel_rfl) (by kernel_rfl) fun a w hF hM => ?_)
          refine sB 2 [(182, .int .i64 kq), (183, .pointer (some ⟨bb27, 4, none⟩))] hF (by kernel_rfl) fun a hF => ?_
          refine wl (eL 184 31 4 (v := .int .i64 (rc la kk 4)) hF hM (by kernel_rfl) rfl rfl (by kernel_rfl) (by kernel_rfl) fun a w hF hM => ?_)
          have hnm0 := hsp
          have hnm1 : 0 ≤ nm := by rw [← hnm]; exact Int.mul_nonneg hsp.2.2.2 (by omega)
          refine wl (eP 185 (v0 := .int .i64 (IntKind.i64.wrap (kq * rc la kk 4))) (v := .int .i64 nm) hF (by kernel_rfl) (fun _ => by kernel_rfl) (vi (by rw [w64 (by omega)]; exact hnm)) fun a hF => ?_)
          refine wl (eP 186 (v0 := .int .i64 (IntKind.i64.wrap (rc la kk 6 + nm))) (v := .int .i64 (rc la kk 6 + nm)) hF (by kernel_rfl) (fun _ => by kernel_rfl) (wi (by omega)) fun a hF => ?_)
          refine wl (eP 187 (v0 := .bool (decide (rc la kk 6 + nm < tn))) (v := .bool false) hF (by kernel_rfl) (fun _ => by kernel_rfl) (bF (by omega)) fun a hF => ?_)
          refine sB 3 [(188, .bool false), (189, .bool false), (190, .int .i64 kq)] hF (by kernel_rfl) fun a hF => ?_
          refine wl (eP 191 (v0 := .bool (decide (kq < 0))) (v := .bool false) hF (by kernel_rfl) (fun _ => by kernel_rfl) (bF (by omega)) fun a hF => ?_)
          refine sB 1 [(192, .bool false)] hF (by kernel_rfl) fun a hF => ?_
          refine wpList_nil ?_
          refine hK66 _ _ ?_
          refine cF hF (by kernel_rfl) (by kernel_rfl) ?_
          refine wp_skip ?_
          refine hK65 _ _ ?_
          refine wp_seq_k fun K67 hK67 => ?_
          refine rF (by kernel_rfl) (by kernel_rfl) (fun S a w => Fr 211 [(5, some (.pointer (some ⟨bb19, 0, none⟩))), (7, some (.map (some bb20))), (8, some (.int .i64 tn)), (13, some (.int .i64 (kk : Int))), (19, some (.int .i64 kq)), (34, some (.slice B1 lsl_2.length c1)), (35, some (.int .i64 (lsl_2.length : Int))), (36, some (.int .i64 (k1 : Int))), (193, (cond (S.getD 0 false) (some (.map (some bb20))) none)), (194, (cond (S.getD 1 false) (some (.int .i64 (kk : Int))) none)), (195, (cond (S.getD 2 false) (some (.int .i64 kq)) none)), (196, (cond (S.getD 3 false) (some (.agg #[.int .i64 (kk : Int), .int .i64 kq])) none)), (197, (cond (S.getD 4 false) (some (.int .i64 0)) none)), (198, (cond (S.getD 5 false) (some (.int .i64 1)) none)), (199, (cond (S.getD 6 false) (some (.tuple #[.int .i64 0, .int .i64 (ml.length : Int)])) none)), (200, (cond (S.getD 7 false) (some (.int .i64 (ml.length : Int))) none))] a ∧ Mem w0.heap.size w0 [(1, some (.ro A (flatR l))), (2, some (.ro B1 (flatK [.u16, .u8, .u8, .u8, .u8] f1))), (4, some (.ro A (flatR lsl))), (5, some (.own (.slice G la.length gc) 57 7 la.length (flatR la))), (18, some (.row bb15 69 #[.int .i64 1, .int .i64 200, .int .i64 1000, .int .i64 300, .int .i64 4000])), (19, some (.ro G3 (lz.map (Value.int .i64)))), (20, some (.ro G4 (flatR mm))), (22, some (.row bb19 27 #[.slice G la.length gc, .slice (some ⟨bb15, 0, none⟩) 1 1, .int .i64 tn, .slice AA23 pl.length cc23, .slice AA24 pm.length cc24])), (23, (cond (S.getD 8 false) (some (.obj bb20 (mapO (ml ++ [(((kk : Int), kq), 1)])))) (cond (S.getD 6 false) (some (.obj bb20 (mapO (ml ++ [(((kk : Int), kq), 0)])))) (some (.obj bb20 (mapO ml)))))), (24, some (.ro B1 (flatK [.u16, .u8, .u8, .u8, .u8] lsl_2))), (27, some (.ro AA23 (pl.map (Value.int .i64)))), (28, some (.ro AA24 (flatR pm)))] w) ?_ ?_ ?_
          ·exact ⟨(((((((((((((((((Fr.nil hF).co hF (i := 200) (by kernel_rfl)).co hF (i := 199) (by kernel_rfl)).co hF (i := 198) (by kernel_rfl)).co hF (i := 197) (by kernel_rfl)).co hF (i := 196) (by kernel_rfl)).co hF (i := 195) (by kernel_rfl)).co hF (i := 194) (by kernel_rfl)).co hF (i := 193) (by kernel_rfl)).co hF (i := 36) (by kernel_rfl)).co hF (i := 35) (by kernel_rfl)).co hF (i := 34) (by kernel_rfl)).co hF (i := 19) (by kernel_rfl)).co hF (i := 13) (by kernel_rfl)).co hF (i := 8) (by kernel_rfl)).co hF (i := 7) (by kernel_rfl)).co hF (i := 5) (by kernel_rfl)), hM.drew.sub ((((((((((((Sub.nil.co (k := 28) (by kernel_rfl)).co (k := 27) (by kernel_rfl)).co (k := 24) (by kernel_rfl)).co (k := 23) (by kernel_rfl)).co (k := 22) (by kernel_rfl)).co (k := 20) (by kernel_rfl)).co (k := 19) (by kernel_rfl)).co (k := 18) (by kernel_rfl)).co (k := 5) (by kernel_rfl)).co (k := 4) (by kernel_rfl)).co (k := 2) (by kernel_rfl)).co (k := 1) (by kernel_rfl))⟩
          ·refine stC ?_ (stC ?_ (stC ?_ (stC ?_ (stC ?_ (stC ?_ (stC ?_ (stC ?_ (stC ?_ (trivial)))))))))
           ·intro s0 s1 s2 s3 s4 s5 s6 s7 s8 hc hi hp a w hS
            obtain rfl : s0 = false := hi
            obtain rfl : s6 = false := hc.f 6 0 (by kernel_rfl) rfl
            obtain rfl : s8 = false := hc.f 8 0 (by kernel_rfl) rfl
            obtain ⟨hF, hM⟩ := hS
            refine eP 193 (v0 := .map (some bb20)) (v := .map (some bb20)) hF (by kernel_rfl) (fun _ => by kernel_rfl) rfl fun a hF => ?_
            exact ⟨((hF.repl 8 (by kernel_rfl)).cast (by kernel_rfl)), (hM.cast (by kernel_rfl))⟩
           ·intro s0 s1 s2 s3 s4 s5 s6 s7 s8 hc hi hp a w hS
            obtain rfl : s1 = false := hi
            obtain ⟨hF, hM⟩ := hS
            refine eP 194 (v0 := .int .i64 (kk : Int)) (v := .int .i64 (kk : Int)) hF (by kernel_rfl) (fun _ => by kernel_rfl) rfl fun a hF => ?_
            exact ⟨((hF.repl 9 (by kernel_rfl)).cast (by kernel_rfl)), (hM.cast (by kernel_rfl))⟩
           ·intro s0 s1 s2 s3 s4 s5 s6 s7 s8 hc hi hp a w hS
            obtain rfl : s2 = false := hi
            obtain ⟨hF, hM⟩ := hS
            refine eP 195 (v0 := .int .i64 kq) (v := .int .i64 kq) hF (by kernel_rfl) (fun _ => by kernel_rfl) rfl fun a hF => ?_
            exact ⟨((hF.repl 10 (by kernel_rfl)).cast (by kernel_rfl)), (hM.cast (by kernel_rfl))⟩
           ·intro s0 s1 s2 s3 s4 s5 s6 s7 s8 hc hi hp a w hS
            obtain rfl : s3 = false := hi
            obtain rfl : s2 = true := hp 2 (by kernel_rfl)
            obtain rfl : s1 = true := hp 1 (by kernel_rfl)
            obtain ⟨hF, hM⟩ := hS
            refine eP 196 (v0 := .agg #[.int .i64 (kk : Int), .int .i64 kq]) (v := .agg #[.int .i64 (kk : Int), .int .i64 kq]) hF (by kernel_rfl) (fun _ => by kernel_rfl) rfl fun a hF => ?_
            exact ⟨((hF.repl 11 (by kernel_rfl)).cast (by kernel_rfl)), (hM.cast (by kernel_rfl))⟩
           ·intro s0 s1 s2 s3 s4 s5 s6 s7 s8 hc hi hp a w hS
            obtain rfl : s4 = false := hi
            obtain rfl : s3 = true := hp 3 (by kernel_rfl)
            obtain rfl : s0 = true := hp 0 (by kernel_rfl)
            obtain rfl : s8 = false := hc.f 8 4 (by kernel_rfl) rfl
            cases s6
            ·skip
             obtain ⟨hF, hM⟩ := hS
             refine eM 197 (v := .int .i64 0) hF hM (by kernel_rfl) (yld_look0 (l := ml) mapTy 23 hF rfl (by kernel_rfl) (by kernel_rfl) (by kernel_rfl) rfl habs) fun a w hF hM => ?_
             exact ⟨((hF.repl 12 (by kernel_rfl)).cast (by kernel_rfl)), (hM.cast (by kernel_rfl))⟩
            ·skip
             obtain ⟨hF, hM⟩ := hS
             refine eM 197 (v := .int .i64 0) hF hM (by kernel_rfl) (yld_look1 (l := ml) (v := 0) mapTy 23 hF rfl (by kernel_rfl) (by kernel_rfl) (by kernel_rfl) rfl habs) fun a w hF hM => ?_
             exact ⟨((hF.repl 12 (by kernel_rfl)).cast (by kernel_rfl)), (hM.cast (by kernel_rfl))⟩
           ·intro s0 s1 s2 s3 s4 s5 s6 s7 s8 hc hi hp a w hS
            obtain rfl : s5 = false := hi
            obtain rfl : s4 = true := hp 4 (by kernel_rfl)
            obtain ⟨hF, hM⟩ := hS
            refine eP 198 (v0 := .int .i64 (IntKind.i64.wrap (0 + 1))) (v := .int .i64 1) hF (by kernel_rfl) (fun _ => by kernel_rfl) (vi (by decide)) fun a hF => ?_
            exact ⟨((hF.repl 13 (by kernel_rfl)).cast (by kernel_rfl)), (hM.cast (by kernel_rfl))⟩
           ·intro s0 s1 s2 s3 s4 s5 s6 s7 s8 hc hi hp a w hS
            obtain rfl : s6 = false := hi
            obtain rfl : s3 = true := hp 3 (by kernel_rfl)
            obtain rfl : s0 = true := hp 0 (by kernel_rfl)
            obtain rfl : s8 = false := hc.f 8 6 (by kernel_rfl) rfl
            obtain ⟨hF, hM⟩ := hS
            refine sMapE 199 23 mapTy (l := ml) hF hM (by kernel_rfl) rfl (by kernel_rfl) (by kernel_rfl) rfl habs fun a w hF hM => ?_
            exact ⟨((hF.repl 14 (by kernel_rfl)).cast (by kernel_rfl)), ((hM.repl 8 (by kernel_rfl)).cast (by kernel_rfl))⟩
           ·intro s0 s1 s2 s3 s4 s5 s6 s7 s8 hc hi hp a w hS
            obtain rfl : s7 = false := hi
            obtain rfl : s6 = true := hp 6 (by kernel_rfl)
            obtain ⟨hF, hM⟩ := hS
            refine eP 200 (v0 := .int .i64 (ml.length : Int)) (v := .int .i64 (ml.length : Int)) hF (by kernel_rfl) (fun _ => by kernel_rfl) rfl fun a hF => ?_
            exact ⟨((hF.repl 15 (by kernel_rfl)).cast (by kernel_rfl)), (hM.cast (by kernel_rfl))⟩
           ·intro s0 s1 s2 s3 s4 s5 s6 s7 s8 hc hi hp a w hS
            obtain rfl : s8 = false := hi
            obtain rfl : s7 = true := hp 7 (by kernel_rfl)
            obtain rfl : s6 = true := hp 6 (by kernel_rfl)
            obtain rfl : s5 = true := hp 5 (by kernel_rfl)
            obtain rfl : s0 = true := hp 0 (by kernel_rfl)
            obtain ⟨hF, hM⟩ := hS
            refine sMapS 23 (l := ml) (x := (kk : Int)) (y := kq) (u := 0) (v := 1) hF hM (by kernel_rfl) rfl rfl (by kernel_rfl) (by kernel_rfl) (by kernel_rfl) (by kernel_rfl) rfl fun w hM => ?_
            exact ⟨(hF.cast (by kernel_rfl)), ((hM.repl 8 (by kernel_rfl)).cast (by kernel_rfl))⟩
          ·intro a w hS
           obtain ⟨hF, hM⟩ := hS
           replace hF : Fr 211 [(5, some (.pointer (some ⟨bb19, 0, none⟩))), (7, some (.map (some bb20))), (8, some (.int .i64 tn)), (13, some (.int .i64 (kk : Int))), (19, some (.int .i64 kq)), (34, some (.slice B1 lsl_2.length c1)), (35, some (.int .i64 (lsl_2.length : Int))), (36, some (.int .i64 (k1 : Int))), (193, some (.map (some bb20))), (194, some (.int .i64 (kk : Int))), (195, some (.int .i64 kq)), (196, some (.agg #[.int .i64 (kk : Int), .int .i64 kq])), (197, some (.int .i64 0)), (198, some (.int .i64 1)), (199, some (.tuple #[.int .i64 0, .int .i64 (ml.length : Int)])), (200, some (.int .i64 (ml.length : Int)))] a := hF.cast (by kernel_rfl)
           replace hM : Mem w0.heap.size w0 [(1, some (.ro A (flatR l))), (2, some (.ro B1 (flatK [.u16, .u8, .u8, .u8, .u8] f1))), (4, some (.ro A (flatR lsl))), (5, some (.own (.slice G la.length gc) 57 7 la.length (flatR la))), (18, some (.row bb15 69 #[.int .i64 1, .int .i64 200, .int .i64 1000, .int .i64 300, .int .i64 4000])), (19, some (.ro G3 (lz.map (Value.int .i64)))), (20, some (.ro G4 (flatR mm))), (22, some (.row bb19 27 #[.slice G la.length gc, .slice (some ⟨bb15, 0, none⟩) 1 1, .int .i64 tn, .slice AA23 pl.length cc23, .slice AA24 pm.length cc24])), (23, some (.obj bb20 (mapO (ml ++ [(((kk : Int), kq), 1)])))), (24, some (.ro B1 (flatK [.u16, .u8, .u8, .u8, .u8] lsl_2))), (27, some (.ro AA23 (pl.map (Value.int .i64)))), (28, some (.ro AA24 (flatR pm)))] w := hM.cast (by kernel_rfl)
           refine hK67 _ _ ?_
           refine wp_seq_k fun K68 hK68 => ?_
           refine wp_region_lit ?_
           refine sB 4 [(201, .map (some bb20)), (202, .int .i64 (kk : Int)), (203, .int .i64 kq), (204, .agg #[.int .i64 (kk : Int), .int .i64 kq])] hF (by kernel_rfl) fun a hF => ?_
           refine wl (eM 205 (v := .int .i64 1) hF hM (by kernel_rfl) (yld_look1 (l := ml) (v := 1) mapTy 23 hF rfl (by kernel_rfl) (by kernel_rfl) (by kernel_rfl) rfl habs) fun a w hF hM => ?_)
           refine wl (eP 206 (v0 := .bool (decide (1 < 1))) (v := .bool false) hF (by kernel_rfl) (fun _ => by kernel_rfl) (bF (by omega)) fun a hF => ?_)
           refine wpList_nil ?_
           refine hK68 _ _ ?_
           refine cF hF (by kernel_rfl) (by kernel_rfl) ?_
           refine wp_skip ?_
           refine hK31 _ _ ?_
           refine wp_region_lit ?_
           refine wl (eP 207 (v0 := .int .i64 (IntKind.i64.wrap ((k1 : Int) + 1))) (v := .int .i64 ((k1 : Int) + 1)) hF (by kernel_rfl) (fun _ => by kernel_rfl) (wi (by omega)) fun a hF => ?_)
           refine sB 1 [(36, .int .i64 ((k1 : Int) + 1))] hF (by kernel_rfl) fun a hF => ?_
           refine wpList_nil ?_
           replace hM := hM.move 19 27 rfl (by decide)
           replace hM := hM.move 20 28 rfl (by decide)
           refine hK28 _ _ ⟨(k1 + 1, tn, pl, pm, AA23, cc23, AA24, cc24, tn, ml ++ [(((kk : Int), kq), 1)]), ⟨(((((((Fr.nil hF).c hF (i := 35) rfl rfl).c hF (i := 34) rfl rfl).c hF (i := 7) rfl rfl).c hF (i := 5) rfl rfl).c hF (i := 36) rfl (vi (show ((k1 : Int) + 1 : Int) = ((k1 + 1) : Int) from by omega))).c hF (i := 8) rfl rfl), (hM.sub ((((((((((Sub.nil.c (k := 24) rfl rfl).c (k := 23) rfl rfl).c (k := 22) rfl rfl).c (k := 20) rfl rfl).c (k := 19) rfl rfl).c (k := 18) rfl rfl).c (k := 5) rfl rfl).c (k := 4) rfl rfl).c (k := 2) rfl rfl).c (k := 1) rfl rfl)), (show ((k1 + 1) : Int) ≤ (lsl_2.length : Int) from by omega), (show -1000 ≤ tn from by omega), (show flE la [[1, 200, 1000, 300, 4000]] tn pl pm = 0 from by exact fpl), (show WR 3 pm from by exact hpm), (show (pl.length : Int) = (la.length : Int) from by omega), (show (pm.length : Int) = 1 from by omega), (show 0 ≤ tn ∧ tn ≤ 65535 * ((k1 + 1) : Int) from by omega), (show tn ≤ tn from by omega), (show MOk la pl (ml ++ [(((kk : Int), kq), 1)]) from by exact MOk.add (by assumption) (once_mono (by omega) epl) hklt (by rw [hon.2.2.2.2.2, nt_set (by omega), if_pos rfl]; exact Int.le_of_eq hkq.symm))⟩, (show lsl_2.length - (k1 + 1) < lsl_2.length - k1 from by omega)⟩
         ·skip
          replace hF := hF.c hF (i := 126) (v := .bool true) rfl (nF hz23)
          refine cT hF (by kernel_rfl) (by kernel_rfl) ?_
          refine wp_exit ?_
          refine hK31 _ _ ?_
          refine wp_region_lit ?_
          refine wl (eP 207 (v0 := .int .i64 (IntKind.i64.wrap ((k1 : Int) + 1))) (v := .int .i64 ((k1 : Int) + 1)) hF (by kernel_rfl) (fun _ => by kernel_rfl) (wi (by omega)) fun a hF => ?_)
          refine sB 1 [(36, .int .i64 ((k1 : Int) + 1))] hF (by kernel_rfl) fun a hF => ?_
          refine wpList_nil ?_
          replace hM := hM.move 19 27 rfl (by decide)
          replace hM := hM.move 20 28 rfl (by decide)
          refine hK28 _ _ ⟨(k1 + 1, tn, pl, pm, AA23, cc23, AA24, cc24, tn, ml), ⟨(((((((Fr.nil hF).c hF (i := 35) rfl rfl).c hF (i := 34) rfl rfl).c hF (i := 7) rfl rfl).c hF (i := 5) rfl rfl).c hF (i := 36) rfl (vi (show ((k1 : Int) + 1 : Int) = ((k1 + 1) : Int) from by omega))).c hF (i := 8) rfl rfl), (hM.sub ((((((((((Sub.nil.c (k := 24) rfl rfl).c (k := 23) rfl rfl).c (k := 22) rfl rfl).c (k := 20) rfl rfl).c (k := 19) rfl rfl).c (k := 18) rfl rfl).c (k := 5) rfl rfl).c (k := 4) rfl rfl).c (k := 2) rfl rfl).c (k := 1) rfl rfl)), (show ((k1 + 1) : Int) ≤ (lsl_2.length : Int) from by omega), (show -1000 ≤ tn from by omega), (show flE la [[1, 200, 1000, 300, 4000]] tn pl pm = 0 from by exact fpl), (show WR 3 pm from by exact hpm), (show (pl.length : Int) = (la.length : Int) from by omega), (show (pm.length : Int) = 1 from by omega), (show 0 ≤ tn ∧ tn ≤ 65535 * ((k1 + 1) : Int) from by omega), (show tn ≤ tn from by omega), (show MOk la pl ml from by exact MOk.mono (by assumption) (once_mono (by omega) epl))⟩, (show lsl_2.length - (k1 + 1) < lsl_2.length - k1 from by omega)⟩
    ·skip
     replace hF := hF.c hF (i := 37) (v := .bool false) rfl (bF hz17)
     refine cF hF (by kernel_rfl) (by kernel_rfl) ?_
     refine wp_exit ?_
     refine hK26 _ _ ?_
     refine wp_seq_k fun K69 hK69 => ?_
     refine wp_region_lit ?_
     refine wl (eL 208 22 0 (v := .agg #[.slice G la.length gc, .slice (some ⟨bb15, 0, none⟩) 1 1, .int .i64 fn_, .slice G3 lz.length g3, .slice G4 mm.length g4]) hF hM (by kernel_rfl) rfl rfl (by kernel_rfl) (by kernel_rfl) fun a w hF hM => ?_)
     refine wl (eM 209 (v := .int .i64 (flE la [[1, 200, 1000, 300, 4000]] fn_ lz mm)) hF hM (by kernel_rfl) (yld_call (f := 12) (args := #[.agg #[.slice G la.length gc, .slice (some ⟨bb15, 0, none⟩) 1 1, .int .i64 fn_, .slice G3 lz.length g3, .slice G4 mm.length g4]]) hF (by kernel_rfl) (fun _ => by kernel_rfl) (fun w hM => fiCheck_x G la gc (some ⟨bb15, 0, none⟩) [[1, 200, 1000, 300, 4000]] 1 fn_ G3 lz g3 G4 mm g4 w (ro_of_own (hM.ok 5 _ rfl)) hWla (hM.roRow (k := 18) rfl) (show WR 5 ([[1, 200, 1000, 300, 4000]] : List (List Int)) from by unfold WR; simp) (hM.ok 19 _ rfl) (hM.ok 20 _ rfl) (show WR 3 mm from by assumption) rfl rfl rfl rfl)) fun a w hF hM => ?_)
     refine wl (eP 210 (v0 := .bool (decide (flE la [[1, 200, 1000, 300, 4000]] fn_ lz mm = 0))) (v := .bool true) hF (by kernel_rfl) (fun _ => by kernel_rfl) (bT hfl_fn_) fun a hF => ?_)
     refine sB 1 [(4, .bool true)] hF (by kernel_rfl) fun a hF => ?_
     refine wpList_nil ?_
     refine hK69 _ _ ?_
     refine wp_ret ?_
     refine hR0 _ _ ?_
     refine ret_of hF hM (.tmp rfl (.nil)) ?_
     exact ⟨rfl, hM.bel⟩

end Go.Proofs.Ytogeficooemngaa
