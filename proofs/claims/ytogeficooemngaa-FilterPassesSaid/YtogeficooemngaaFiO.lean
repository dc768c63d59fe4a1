/-
  Parts of the reference Pass.
-/
import Derived.Test.YtogeficooemngaaFiN
namespace Go.Proofs.Ytogeficooemngaa
open Go.RowKit
set_option linter.unusedVariables false
set_option linter.unusedSimpArgs false

def schR (a3 a4 a5 a6 last i4 t : Int) : Int × Int := if i4 ≠ a3 then (0, 2) else if (t - a5) / a4 < 0 ∨ a6 - a5 < (t - a5) % a4 then (0, 3) else if (t - a5) / a4 ≤ last then (0, 4) else ((t - a5) / a4, 0)
theorem sch_pos {x p : Int} (hx : 0 ≤ x) (hp : 0 < p) : x.tdiv p = x / p ∧ x / p * p ≤ x ∧ x < x / p * p + p ∧ x % p = x - x / p * p ∧ 0 ≤ x / p ∧ 0 ≤ x / p * p := by
  have h1 := Int.mul_ediv_add_emod x p
  have h2 := Int.emod_nonneg x (show p ≠ 0 by omega)
  have h3 := Int.emod_lt_of_pos x hp
  have h4 := Int.ediv_nonneg hx (show 0 ≤ p by omega)
  have h5 := Int.mul_nonneg h4 (show 0 ≤ p by omega)
  rw [Int.mul_comm] at h1
  exact ⟨Int.tdiv_eq_ediv_of_nonneg hx, by omega, by omega, by omega, h4, h5⟩
theorem sch_neg {x p : Int} (hx : x < 0) (hp : 0 < p) : x / p < 0 := Int.ediv_neg_of_neg_of_pos hx hp
theorem psA_sch {la : List (List Int)} {ls : List Int} {port i1 i3 i4 t : Int} {kk : Nat} {sn sv : Int} (hk : regI port i1 i3 la = (kk : Int)) (h6 : ¬ rc la kk 2 = 6) (hs : schR (rc la kk 3) (rc la kk 4) (rc la kk 5) (rc la kk 6) (nt ls kk) i4 t = (sn, sv)) : psA la ls port i1 i3 i4 t = (if sv = 0 then ls.set kk sn else ls, sv) := by
  unfold psA
  rw [hk, if_neg (by omega), Int.toNat_natCast, if_neg h6]
  unfold schR at hs
  split at hs
  · rename_i h; obtain ⟨rfl, rfl⟩ := Prod.mk.inj hs; rw [if_pos h]; rfl
  · rename_i h; rw [if_neg h]
    split at hs
    · rename_i h; obtain ⟨rfl, rfl⟩ := Prod.mk.inj hs; rw [if_pos h]; rfl
    · rename_i h; rw [if_neg h]
      split at hs
      · rename_i h; obtain ⟨rfl, rfl⟩ := Prod.mk.inj hs; rw [if_pos h]; rfl
      · rename_i h; obtain ⟨rfl, rfl⟩ := Prod.mk.inj hs; rw [if_neg h]; rfl
def PsAt (lq lm : List (List Int)) (port t size : Int) (q : Nat) (mm : List (List Int)) : Prop :=
  (mm = lm ∧ ∀ j, j < q → ¬ rc lq j 0 = port) ∨ ∃ k, k < q ∧ k < lq.length ∧ rc lq k 0 = port ∧ (∀ j, j < k → ¬ rc lq j 0 = port) ∧ mm = lm.set k (pnew lq lm k t size) ∧ ¬ pcol lq lm k t size = 2
theorem PsAt.zero {lq lm : List (List Int)} {port t size : Int} : PsAt lq lm port t size 0 lm := .inl ⟨rfl, fun j hj => by omega⟩
theorem PsAt.skip {lq lm mm : List (List Int)} {port t size : Int} {q : Nat} (h : PsAt lq lm port t size q mm) (hn : ¬ rc lq q 0 = port) : PsAt lq lm port t size (q + 1) mm := by
  rcases h with ⟨rfl, h⟩ | ⟨k, h1, h2⟩
  · exact .inl ⟨rfl, all_next h hn⟩
  · exact .inr ⟨k, by omega, h2⟩
theorem PsAt.first {la lq lm lm0 mm : List (List Int)} {now : Int} {ls : List Int} {port t size : Int} {q : Nat} (h : PsAt lq lm port t size q mm) (h0 : flE la lq now ls lm0 = 0) (hq : q < lq.length) (hp : rc lq q 0 = port) : mm = lm ∧ polI port lq = (q : Int) := by
  have hu := (fl_Q (fl_p h0) hq).1.2
  rcases h with ⟨rfl, h⟩ | ⟨k, h1, h2, h3, _⟩
  · exact ⟨rfl, fnd_some hq (decide_eq_true hp) fun j hj => decide_eq_false (h j hj)⟩
  · exact absurd (h3.trans hp.symm) (hu k h1)
theorem PsAt.step {lq lm mm : List (List Int)} {port t size : Int} {q : Nat} (h : polI port lq = (q : Int)) (hm : mm = lm) (hq : q < lq.length) (hp : rc lq q 0 = port) (hc : ¬ pcol lq lm q t size = 2) : PsAt lq lm port t size (q + 1) (mm.set q (pnew lq mm q t size)) := by
  subst hm
  obtain ⟨k, h1, h2, h3, h4⟩ := pol_pos (show ¬ polI port lq < 0 by omega)
  obtain rfl : k = q := by omega
  exact .inr ⟨k, by omega, hq, hp, h4, rfl, hc⟩
theorem PsAt.done {lq lm mm : List (List Int)} {port t size : Int} {q : Nat} (h : PsAt lq lm port t size q mm) (hq : lq.length ≤ q) : psM lq lm port t size = (mm, 0) := by
  unfold psM
  rcases h with ⟨rfl, h⟩ | ⟨k, _, h2, h3, h4, h5, h6⟩
  · have : polI port lq = -1 := fnd_none fun j hj => decide_eq_false (h j (by omega))
    rw [if_pos (by omega)]
  · have : polI port lq = (k : Int) := fnd_some h2 (decide_eq_true h3) fun j hj => decide_eq_false (h4 j hj)
    rw [this, if_neg (by omega), Int.toNat_natCast, if_neg h6, h5]
def Gok (w0 : World) (A4 G : Option Addr) : Prop := G = A4 ∨ ∀ b, G.map (·.block) = some b → w0.heap.size ≤ b
theorem Gok.ret {w0 : World} {A4 G : Option Addr} {xs : List Value} (h : Gok w0 A4 G) : G = A4 ∨ ∀ b, (Ent.ro G xs).blk = some b → w0.heap.size ≤ b := by
  rcases h with h | h
  · exact .inl h
  · exact .inr fun b hb => by
      cases xs with
      | nil => cases hb
      | cons x t => exact h b hb
theorem Mem.gok {k e size m cap : Nat} {w0 w : World} {L : List (Nat × Option Ent)} {A A4 : Option Addr} {xs : List Value} (hM : Mem w0.heap.size w0 L w) (h : look k L = some (.own (.slice A m cap) e size m xs)) : Gok w0 A4 A := .inr fun b hb => by
  have ho : w.ownsRow w0.heap.size e size (.slice A m cap) m xs := hM.ok k _ h
  refine (own_lt ho ?_).1
  cases A with
  | none => cases hb
  | some a => exact hb
theorem Mem.toRo {B k e size m cap : Nat} {w0 w : World} {L : List (Nat × Option Ent)} {A : Option Addr} {xs : List Value} (hM : Mem B w0 L w) (h : look k L = some (.own (.slice A m cap) e size m xs)) : Mem B w0 ((k, some (.ro A xs)) :: L) w :=
  hM.add k (ro_of_own (hM.ok k _ h)) fun j x hne hx hw b hb => by
    rcases hw with hw | hw
    · cases hw
    refine hM.ap k j _ _ hne h hx (.inl rfl) b ?_
    cases xs with
    | nil => cases hb
    | cons y t =>
      cases A with
      | none => cases hb
      | some a => exact hb
set_option maxRecDepth 100000 in
theorem sched_w (a0 a1 a2 a3 a4 a5 a6 last i1 i2 i3 i4 i5 t : Int) (w0 : World) (h : 1 ≤ a4 ∧ a4 ≤ 2400000 ∧ -1099511627776 ≤ a5 ∧ a5 ≤ 1099511627776 ∧ -1099511627776 ≤ a6 ∧ a6 ≤ 1099511627776 ∧ a5 ≤ a6 ∧ a6 - a5 < a4 ∧ -4398046511104 ≤ t ∧ t ≤ 4398046511104) {sn sv : Int} (e : schR a3 a4 a5 a6 last i4 t = (sn, sv)) :
    Calls Try.prog 40 #[.agg #[.int .i64 a0, .int .i64 a1, .int .i64 a2, .int .i64 a3, .int .i64 a4, .int .i64 a5, .int .i64 a6], .int .i64 last, .agg #[.int .i64 i1, .int .i64 i2, .int .i64 i3, .int .i64 i4, .int .i64 i5], .int .i64 t] w0 (Ret w0 (.tuple #[.int .i64 sn, .int .i64 sv])) := by
 refine enterK 42 Try.func40 rfl rfl rfl ?_
 intro a hF Q0 hR0 hN0
 have hM := Mem.start w0
 refine wp_seq_k fun K1 hK1 => ?_
 refine wp_region_lit ?_
 refine wl (eN 4 1 (t := 57) (fun b => .pointer (some ⟨b, 0, none⟩)) #[.int .i64 a0, .int .i64 a1, .int .i64 a2, .int .i64 a3, .int .i64 a4, .int .i64 a5, .int .i64 a6] hF hM (by kernel_rfl) (fun _ => by kernel_rfl) fun bb1 a w hF hM => ?_)
 refine wl (eN 6 2 (t := 39) (fun b => .pointer (some ⟨b, 0, none⟩)) #[.int .i64 i1, .int .i64 i2, .int .i64 i3, .int .i64 i4, .int .i64 i5] hF hM (by kernel_rfl) (fun _ => by kernel_rfl) fun bb2 a w hF hM => ?_)
 refine sB 2 [(8, .int .i64 0), (9, .int .i64 0)] hF (by kernel_rfl) fun a hF => ?_
 refine wpList_nil ?_
 refine hK1 _ _ ?_
 refine wp_seq_k fun K2 hK2 => ?_
 refine wp_seq_k fun K3 hK3 => ?_
 refine wp_region_lit ?_
 refine sB 1 [(11, .pointer (some ⟨bb2, 3, none⟩))] hF (by kernel_rfl) fun a hF => ?_
 refine wl (eL 12 2 3 (v := .int .i64 i4) hF hM (by kernel_rfl) rfl rfl (by kernel_rfl) (by kernel_rfl) fun a w hF hM => ?_)
 refine sB 1 [(13, .pointer (some ⟨bb1, 3, none⟩))] hF (by kernel_rfl) fun a hF => ?_
 refine wl (eL 14 1 3 (v := .int .i64 a3) hF hM (by kernel_rfl) rfl rfl (by kernel_rfl) (by kernel_rfl) fun a w hF hM => ?_)
 refine sB 1 [(15, .bool (!decide (i4 = a3)))] hF (by kernel_rfl) fun a hF => ?_
 refine wpList_nil ?_
 refine hK3 _ _ ?_
 by_cases hz1 : i4 = a3
 ·skip
  replace hF := hF.c hF (i := 15) (v := .bool false) rfl (nT hz1)
  refine cF hF (by kernel_rfl) (by kernel_rfl) ?_
  refine wp_skip ?_
  refine hK2 _ _ ?_
  refine wp_seq_k fun K4 hK4 => ?_
  by_cases hz2 : t < a5
  ·skip
   have hsn := sch_neg (x := t - a5) (p := a4) (by omega) (by omega)
   refine wp_region_lit ?_
   refine sB 2 [(16, .int .i64 t), (17, .pointer (some ⟨bb1, 5, none⟩))] hF (by kernel_rfl) fun a hF => ?_
   refine wl (eL 18 1 5 (v := .int .i64 a5) hF hM (by kernel_rfl) rfl rfl (by kernel_rfl) (by kernel_rfl) fun a w hF hM => ?_)
   refine wl (eP 19 (v0 := .int .i64 (IntKind.i64.wrap (t - a5))) (v := .int .i64 (t - a5)) hF (by kernel_rfl) (fun _ => by kernel_rfl) (wi (by omega)) fun a hF => ?_)
   refine sB 1 [(20, .pointer (some ⟨bb1, 4, none⟩))] hF (by kernel_rfl) fun a hF => ?_
   refine wl (eL 21 1 4 (v := .int .i64 a4) hF hM (by kernel_rfl) rfl rfl (by kernel_rfl) (by kernel_rfl) fun a w hF hM => ?_)
   obtain ⟨nq, hnq⟩ : ∃ z : Int, (t - a5).tdiv a4 = z := ⟨_, rfl⟩
   refine wl (eM 22 (v := .int .i64 nq) hF hM (by kernel_rfl) (yld_quo (t - a5) a4 hF rfl (by kernel_rfl) (by kernel_rfl) (by kernel_rfl) (by omega) ((qany (by omega) (by omega)).trans hnq)) fun a w hF hM => ?_)
   refine sB 1 [(10, .int .i64 nq)] hF (by kernel_rfl) fun a hF => ?_
   refine wpList_nil ?_
   refine hK4 _ _ ?_
   refine wp_seq_k fun K5 hK5 => ?_
   refine wp_seq_k fun K6 hK6 => ?_
   refine wp_region_lit ?_
   refine sB 2 [(23, .int .i64 t), (24, .pointer (some ⟨bb1, 5, none⟩))] hF (by kernel_rfl) fun a hF => ?_
   refine wl (eL 25 1 5 (v := .int .i64 a5) hF hM (by kernel_rfl) rfl rfl (by kernel_rfl) (by kernel_rfl) fun a w hF hM => ?_)
   refine wl (eP 26 (v0 := .bool (decide (t < a5))) (v := .bool true) hF (by kernel_rfl) (fun _ => by kernel_rfl) (bT hz2) fun a hF => ?_)
   refine sB 11 [(27, .bool true), (28, undef), (29, undef), (30, undef), (31, undef), (32, undef), (33, undef), (34, undef), (35, undef), (36, undef), (37, .bool true)] hF (by kernel_rfl) fun a hF => ?_
   refine wpList_nil ?_
   refine hK6 _ _ ?_
   refine cT hF (by kernel_rfl) (by kernel_rfl) ?_
   refine wp_seq_k fun K7 hK7 => ?_
   refine wp_region_lit ?_
   refine sB 2 [(8, .int .i64 0), (9, .int .i64 3)] hF (by kernel_rfl) fun a hF => ?_
   refine wpList_nil ?_
   refine hK7 _ _ ?_
   refine wp_ret ?_
   refine hR0 _ _ ?_
   refine ret_of hF hM (.tmp rfl (.tmp rfl (.nil))) ?_
   have e2 := e.symm.trans (show schR a3 a4 a5 a6 last i4 t = (0, 3) from by unfold schR; rw [if_neg (by omega), if_pos (by omega)])
   obtain ⟨rfl, rfl⟩ := Prod.mk.inj e2
   exact ⟨rfl, hM.bel⟩
  ·skip
   have hsp := sch_pos (x := t - a5) (p := a4) (by omega) (by omega)
   refine wp_region_lit ?_
   refine sB 2 [(16, .int .i64 t), (17, .pointer (some ⟨bb1, 5, none⟩))] hF (by kernel_rfl) fun a hF => ?_
   refine wl (eL 18 1 5 (v := .int .i64 a5) hF hM (by kernel_rfl) rfl rfl (by kernel_rfl) (by kernel_rfl) fun a w hF hM => ?_)
   refine wl (eP 19 (v0 := .int .i64 (IntKind.i64.wrap (t - a5))) (v := .int .i64 (t - a5)) hF (by kernel_rfl) (fun _ => by kernel_rfl) (wi (by omega)) fun a hF => ?_)
   refine sB 1 [(20, .pointer (some ⟨bb1, 4, none⟩))] hF (by kernel_rfl) fun a hF => ?_
   refine wl (eL 21 1 4 (v := .int .i64 a4) hF hM (by kernel_rfl) rfl rfl (by kernel_rfl) (by kernel_rfl) fun a w hF hM => ?_)
   obtain ⟨nq, hnq⟩ : ∃ z : Int, (t - a5).tdiv a4 = z := ⟨_, rfl⟩
   have hnq2 : (t - a5) / a4 = nq := hsp.1.symm.trans hnq
   rw [hnq2] at hsp
   refine wl (eM 22 (v := .int .i64 nq) hF hM (by kernel_rfl) (yld_quo (t - a5) a4 hF rfl (by kernel_rfl) (by kernel_rfl) (by kernel_rfl) (by omega) ((qany (by omega) (by omega)).trans hnq)) fun a w hF hM => ?_)
   refine sB 1 [(10, .int .i64 nq)] hF (by kernel_rfl) fun a hF => ?_
   refine wpList_nil ?_
   refine hK4 _ _ ?_
   refine wp_seq_k fun K8 hK8 => ?_
   refine wp_seq_k fun K9 hK9 => ?_
   refine wp_region_lit ?_
   refine sB 2 [(23, .int .i64 t), (24, .pointer (some ⟨bb1, 5, none⟩))] hF (by kernel_rfl) fun a hF => ?_
   refine wl (eL 25 1 5 (v := .int .i64 a5) hF hM (by kernel_rfl) rfl rfl (by kernel_rfl) (by kernel_rfl) fun a w hF hM => ?_)
   refine wl (eP 26 (v0 := .bool (decide (t < a5))) (v := .bool false) hF (by kernel_rfl) (fun _ => by kernel_rfl) (bF hz2) fun a hF => ?_)
   refine sB 3 [(27, .bool false), (28, .int .i64 t), (29, .pointer (some ⟨bb1, 6, none⟩))] hF (by kernel_rfl) fun a hF => ?_
   refine wl (eL 30 1 6 (v := .int .i64 a6) hF hM (by kernel_rfl) rfl rfl (by kernel_rfl) (by kernel_rfl) fun a w hF hM => ?_)
   refine sB 2 [(31, .int .i64 nq), (32, .pointer (some ⟨bb1, 4, none⟩))] hF (by kernel_rfl) fun a hF => ?_
   refine wl (eL 33 1 4 (v := .int .i64 a4) hF hM (by kernel_rfl) rfl rfl (by kernel_rfl) (by kernel_rfl) fun a w hF hM => ?_)
   obtain ⟨nm, hnm⟩ : ∃ z : Int, nq * a4 = z := ⟨_, rfl⟩
   rw [hnm] at hsp
   have := hsp
   refine wl (eP 34 (v0 := .int .i64 (IntKind.i64.wrap (nq * a4))) (v := .int .i64 nm) hF (by kernel_rfl) (fun _ => by kernel_rfl) (vi (by rw [w64 (by omega)]; exact hnm)) fun a hF => ?_)
   refine wl (eP 35 (v0 := .int .i64 (IntKind.i64.wrap (a6 + nm))) (v := .int .i64 (a6 + nm)) hF (by kernel_rfl) (fun _ => by kernel_rfl) (wi (by omega)) fun a hF => ?_)
   refine sB 2 [(36, .bool (decide (a6 + nm < t))), (37, .bool (decide (a6 + nm < t)))] hF (by kernel_rfl) fun a hF => ?_
   refine wpList_nil ?_
   refine hK9 _ _ ?_
   by_cases hz3 : a6 + nm < t
   ·skip
    replace hF := hF.c hF (i := 36) (v := .bool true) rfl (bT hz3)
    replace hF := hF.c hF (i := 37) (v := .bool true) rfl (bT hz3)
    refine cT hF (by kernel_rfl) (by kernel_rfl) ?_
    refine wp_seq_k fun K10 hK10 => ?_
    refine wp_region_lit ?_
    refine sB 2 [(8, .int .i64 0), (9, .int .i64 3)] hF (by kernel_rfl) fun a hF => ?_
    refine wpList_nil ?_
    refine hK10 _ _ ?_
    refine wp_ret ?_
    refine hR0 _ _ ?_
    refine ret_of hF hM (.tmp rfl (.tmp rfl (.nil))) ?_
    have e2 := e.symm.trans (show schR a3 a4 a5 a6 last i4 t = (0, 3) from by unfold schR; rw [if_neg (by omega), if_pos (by rw [hnq2]; right; omega)])
    obtain ⟨rfl, rfl⟩ := Prod.mk.inj e2
    exact ⟨rfl, hM.bel⟩
   ·skip
    replace hF := hF.c hF (i := 36) (v := .bool false) rfl (bF hz3)
    replace hF := hF.c hF (i := 37) (v := .bool false) rfl (bF hz3)
    refine cF hF (by kernel_rfl) (by kernel_rfl) ?_
    refine wp_skip ?_
    refine hK8 _ _ ?_
    refine wp_seq_k fun K11 hK11 => ?_
    refine wp_seq_k fun K12 hK12 => ?_
    refine wp_region_lit ?_
    refine sB 3 [(38, .int .i64 nq), (39, .int .i64 last), (40, .bool (decide (nq ≤ last)))] hF (by kernel_rfl) fun a hF => ?_
    refine wpList_nil ?_
    refine hK12 _ _ ?_
    by_cases hz4 : nq ≤ last
    ·skip
     replace hF := hF.c hF (i := 40) (v := .bool true) rfl (bT hz4)
     refine cT hF (by kernel_rfl) (by kernel_rfl) ?_
     refine wp_seq_k fun K13 hK13 => ?_
     refine wp_region_lit ?_
     refine sB 2 [(8, .int .i64 0), (9, .int .i64 4)] hF (by kernel_rfl) fun a hF => ?_
     refine wpList_nil ?_
     refine hK13 _ _ ?_
     refine wp_ret ?_
     refine hR0 _ _ ?_
     refine ret_of hF hM (.tmp rfl (.tmp rfl (.nil))) ?_
     have e2 := e.symm.trans (show schR a3 a4 a5 a6 last i4 t = (0, 4) from by unfold schR; rw [if_neg (by omega), if_neg (by rw [hnq2]; omega), if_pos (by rw [hnq2]; omega)])
     obtain ⟨rfl, rfl⟩ := Prod.mk.inj e2
     exact ⟨rfl, hM.bel⟩
    ·skip
     replace hF := hF.c hF (i := 40) (v := .bool false) rfl (bF hz4)
     refine cF hF (by kernel_rfl) (by kernel_rfl) ?_
     refine wp_skip ?_
     refine hK11 _ _ ?_
     refine wp_seq_k fun K14 hK14 => ?_
     refine wp_region_lit ?_
     refine sB 3 [(41, .int .i64 nq), (8, .int .i64 nq), (9, .int .i64 0)] hF (by kernel_rfl) fun a hF => ?_
     refine wpList_nil ?_
     refine hK14 _ _ ?_
     refine wp_ret ?_
     refine hR0 _ _ ?_
     refine ret_of hF hM (.tmp rfl (.tmp rfl (.nil))) ?_
     have e2 := e.symm.trans (show schR a3 a4 a5 a6 last i4 t = (nq, 0) from by unfold schR; rw [if_neg (by omega), if_neg (by rw [hnq2]; omega), if_neg (by rw [hnq2]; omega), hnq2])
     obtain ⟨rfl, rfl⟩ := Prod.mk.inj e2
     exact ⟨rfl, hM.bel⟩
 ·skip
  replace hF := hF.c hF (i := 15) (v := .bool true) rfl (nF hz1)
  refine cT hF (by kernel_rfl) (by kernel_rfl) ?_
  refine wp_seq_k fun K15 hK15 => ?_
  refine wp_region_lit ?_
  refine sB 2 [(8, .int .i64 0), (9, .int .i64 2)] hF (by kernel_rfl) fun a hF => ?_
  refine wpList_nil ?_
  refine hK15 _ _ ?_
  refine wp_ret ?_
  refine hR0 _ _ ?_
  refine ret_of hF hM (.tmp rfl (.tmp rfl (.nil))) ?_
  have e2 := e.symm.trans (show schR a3 a4 a5 a6 last i4 t = (0, 2) from by unfold schR; rw [if_pos (by omega)])
  obtain ⟨rfl, rfl⟩ := Prod.mk.inj e2
  exact ⟨rfl, hM.bel⟩

end Go.Proofs.Ytogeficooemngaa
