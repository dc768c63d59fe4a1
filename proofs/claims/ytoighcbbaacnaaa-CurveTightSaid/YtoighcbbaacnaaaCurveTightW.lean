/-
  The walk of CurveTight.
-/
import Derived.Test.YtoighcbbaacnaaaCurveJ
namespace Go.Proofs.Ytoighcbbaacnaaa
open Go.RowKit
set_option linter.unusedVariables false
set_option linter.unusedSimpArgs false

theorem dl_three {b q r t : Int} (h : csE b q r t = 0) : dlE r t [(b, q), (b, q), (b, q)] = 0 ∧ dlV r t [(b, q), (b, q), (b, q)] = t + cq (b * 1048576) r := by
  have h1 := cs_ok h
  obtain ⟨l, hl⟩ : ∃ l, l = [(b, q), (b, q), (b, q)] := ⟨_, rfl⟩
  have hn : l.length = 3 := by rw [hl]; rfl
  have p : ∀ j, j < 3 → pr l j = (b, q) := fun j hj => by
    rw [hl]
    match j, hj with
    | 0, _ => rfl
    | 1, _ => rfl
    | 2, _ => rfl
  have sk : ∀ k, k ≤ 3 → dIn r (b, q) l k = [] := fun k => by
    induction k with
    | zero => intro _; rfl
    | succ k ih => intro hk; rw [dIn_skip (by rw [p k (by omega)]; exact .inl h1.2.2)]; exact ih (by omega)
  have st : ∀ k, k < 3 → dAll r l (k + 1) = dAll r l k ++ [cq (b * 1048576) r] := fun k hk => by
    rw [dAll_take (by rw [p k hk]; show ¬ r < q; omega), p k hk, hn, sk 3 (by omega)]
  have e : dAll r l l.length = [cq (b * 1048576) r, cq (b * 1048576) r, cq (b * 1048576) r] := by
    rw [hn, st 2 (by omega), st 1 (by omega), st 0 (by omega)]; rfl
  have c : clF (dAll r l l.length) = (cq (b * 1048576) r, true) := by
    rw [e]
    simp [clF, clS]
  have a : bkAll l = true := bkAll_yes fun j hj => by rw [p j (by omega)]; exact h1.1
  have d := dl_0 (r := r) (t := t) (l := l) (by omega) (by omega) a h1.2.1 (by rw [c])
  rw [c] at d
  rw [← hl]
  exact d
theorem tr_one {x y : Int} (h : 0 ≤ x ∧ x ≤ 1099511627776 ∧ 1 ≤ y ∧ y ≤ 1048576) : trE [(x, y)] = 0 := trE_of (by simp) fun i hi => by
  obtain rfl : i = 0 := by simp at hi; omega
  exact ⟨h.1, h.2.1, h.2.2.1, h.2.2.2⟩
theorem dr_one {r t x y : Int} (hr : 1 ≤ r) (hx : 0 ≤ x) : nt (drL r t [(x, y)] 1) 0 = x + (t + cq (y * 1048576) r) := by
  have e : enN r [(x, y)] 1 = x * r + y * 1048576 := by
    show max 0 (x * r) + y * 1048576 = _
    have := Int.mul_nonneg hx (show 0 ≤ r by omega)
    omega
  show t + cq (enN r [(x, y)] 1) r = _
  rw [e, cq_shift hr]
  omega
set_option maxRecDepth 100000 in
set_option maxHeartbeats 8000000 in
theorem curveTight_walk (bu ra mo la at_ : Int) (g s : Value) (w0 : World) (h : 0 ≤ bu ∧ bu < 4294967296 ∧ 0 ≤ ra ∧ ra < 4294967296 ∧ 0 ≤ mo ∧ mo < 4294967296 ∧ 0 ≤ la ∧ la ≤ 65535 ∧ 0 ≤ at_ ∧ at_ < 4294967296) :
    Calls Try.prog 7 #[.agg #[.int .u32 bu, .int .u32 ra, g, s], .int .u32 mo, .int .u16 la, .int .u32 at_] w0 (Ret w0 (.bool true)) := by
  obtain ⟨xb, hxb⟩ : ∃ z : Int, 1 + bu % 1048576 = z := ⟨_, rfl⟩
  obtain ⟨xq, hxq⟩ : ∃ z : Int, 1 + ra % 2097152 = z := ⟨_, rfl⟩
  have hbk : bkE xb xq = 0 := by unfold bkE; rw [if_pos]; omega
  obtain ⟨sr, hsr⟩ : ∃ z : Int, min 2097152 (xq + mo % 262144) = z := ⟨_, rfl⟩
  have v1 : svE sr la = 0 := svE_yes (by omega)
  have k1 := cs_0 (b := xb) (q := xq) hbk v1 (by omega)
  have b1 := cq_in (n := xb * 1048576) (d := sr) (B := 1099511627776) (by omega) (by omega) (by omega)
  have d1 := dr_one (r := sr) (t := la) (x := at_) (y := xb) (by omega) (by omega)
  obtain ⟨c1, hc1⟩ : ∃ z : Int, cq (xb * 1048576) sr = z := ⟨_, rfl⟩
  rw [hc1] at b1 d1
  have tr1 : trE [(at_, xb)] = 0 := tr_one (by omega)
  obtain ⟨og, hog⟩ : ∃ z : List Int, drL sr la [(at_, xb)] 1 = z := ⟨_, rfl⟩
  rw [hog] at d1
  have hol : og.length = 1 := by rw [← hog]; exact drL_len _ _ _ _
  refine enterK 88 Try.func7 rfl rfl rfl ?_
  intro a hF Q0 hR0 hN0
  have hM := Mem.start w0
  refine wp_seq_k fun K1 hK1 => ?_
  refine wp_region_lit ?_
  refine wl (eN 4 1 (t := 42) (fun b => .pointer (some ⟨b, 0, none⟩)) #[.int .u32 bu, .int .u32 ra, g, s] hF hM (by kernel_rfl) (fun _ => by kernel_rfl) fun bb1 a w hF hM => ?_)
  refine sB 1 [(8, .bool false)] hF (by kernel_rfl) fun a hF => ?_
  refine wpList_nil ?_
  refine hK1 _ _ ?_
  refine wp_seq_k fun K2 hK2 => ?_
  refine wp_seq_k fun K3 hK3 => ?_
  refine wp_region_lit ?_
  refine wl (eM 17 (v := .bool true) hF hM (by kernel_rfl) (yld_call (f := 18) (args := #[]) hF (by kernel_rfl) (fun _ => by kernel_rfl) (fun w hM => works4_w w)) fun a w hF hM => ?_)
  refine sB 1 [(18, .bool false)] hF (by kernel_rfl) fun a hF => ?_
  refine wpList_nil ?_
  refine hK3 _ _ ?_
  refine cF hF (by kernel_rfl) (by kernel_rfl) ?_
  refine wp_skip ?_
  refine hK2 _ _ ?_
  refine wp_seq_k fun K4 hK4 => ?_
  refine wp_region_lit ?_
  refine wl (eL 19 1 0 (v := .agg #[.int .u32 bu, .int .u32 ra, g, s]) hF hM (by kernel_rfl) rfl rfl (by kernel_rfl) (by kernel_rfl) fun a w hF hM => ?_)
  refine wl (eM 20 (v := .agg #[.int .i64 xb, .int .i64 xq]) hF hM (by kernel_rfl) (yld_call (f := 19) (args := #[.agg #[.int .u32 bu, .int .u32 ra, g, s]]) hF (by kernel_rfl) (fun _ => by kernel_rfl) (fun w hM => agg_to hxb hxq (draftBucket_w bu ra (g) (s) w (by omega)))) fun a w hF hM => ?_)
  refine wl (eN 9 2 (t := 39) (fun b => .pointer (some ⟨b, 0, none⟩)) #[.int .i64 0, .int .i64 0] hF hM (by kernel_rfl) (fun _ => by kernel_rfl) fun bb2 a w hF hM => ?_)
  refine wl (sStore (i := 2) (off := 0) (cs' := #[.int .i64 xb, .int .i64 xq]) hF hM (by kernel_rfl) rfl rfl (by kernel_rfl) (by kernel_rfl) rfl (by kernel_rfl) fun w hM => ?_)
  refine wpList_nil ?_
  refine hK4 _ _ ?_
  refine wp_seq_k fun K5 hK5 => ?_
  refine wp_region_lit ?_
  refine sB 1 [(21, .pointer (some ⟨bb2, 1, none⟩))] hF (by kernel_rfl) fun a hF => ?_
  refine wl (eL 22 2 1 (v := .int .i64 xq) hF hM (by kernel_rfl) rfl rfl (by kernel_rfl) (by kernel_rfl) fun a w hF hM => ?_)
  refine sB 1 [(23, .int .u32 mo)] hF (by kernel_rfl) fun a hF => ?_
  refine wl (eM 24 (v := .int .u32 (mo % 262144)) hF hM (by kernel_rfl) (yld_rem mo 262144 hF rfl (by kernel_rfl) (by kernel_rfl) (by kernel_rfl) (by decide) (Int.tmod_eq_emod_of_nonneg (by omega))) fun a w hF hM => ?_)
  refine wl (eP 25 (v0 := .int .i64 (IntKind.i64.wrap (mo % 262144))) (v := .int .i64 (mo % 262144)) hF (by kernel_rfl) (fun _ => by kernel_rfl) (vi (IntWalk.i64_in _ (by omega))) fun a hF => ?_)
  refine wl (eP 26 (v0 := .int .i64 (IntKind.i64.wrap (xq + mo % 262144))) (v := .int .i64 (xq + mo % 262144)) hF (by kernel_rfl) (fun _ => by kernel_rfl) (wi (by omega)) fun a hF => ?_)
  refine wl (eP 27 (v0 := .int .i64 (if xq + mo % 262144 < 2097152 then xq + mo % 262144 else 2097152)) (v := .int .i64 sr) hF (by kernel_rfl) (fun _ => by kernel_rfl) (vi (by rw [← hsr]; exact (min_if _ _))) fun a hF => ?_)
  refine sB 1 [(28, .int .u16 la)] hF (by kernel_rfl) fun a hF => ?_
  refine wl (eP 29 (v0 := .int .i64 (IntKind.i64.wrap la)) (v := .int .i64 la) hF (by kernel_rfl) (fun _ => by kernel_rfl) (vi (IntWalk.i64_in _ (by omega))) fun a hF => ?_)
  refine sB 1 [(30, .agg #[.int .i64 sr, .int .i64 la])] hF (by kernel_rfl) fun a hF => ?_
  refine wl (eN 10 3 (t := 23) (fun b => .pointer (some ⟨b, 0, none⟩)) #[.int .i64 0, .int .i64 0] hF hM (by kernel_rfl) (fun _ => by kernel_rfl) fun bb3 a w hF hM => ?_)
  refine wl (sStore (i := 3) (off := 0) (cs' := #[.int .i64 sr, .int .i64 la]) hF hM (by kernel_rfl) rfl rfl (by kernel_rfl) (by kernel_rfl) rfl (by kernel_rfl) fun w hM => ?_)
  refine wpList_nil ?_
  refine hK5 _ _ ?_
  refine wp_seq_k fun K6 hK6 => ?_
  refine wp_region_lit ?_
  refine wl (eL 32 2 0 (v := .agg #[.int .i64 xb, .int .i64 xq]) hF hM (by kernel_rfl) rfl rfl (by kernel_rfl) (by kernel_rfl) fun a w hF hM => ?_)
  refine wl (eN 33 4 (t := 39) (fun b => .slice (some ⟨b, 0, none⟩) 1 1) #[.int .i64 xb, .int .i64 xq] hF hM (by kernel_rfl) (fun _ => by kernel_rfl) fun bb4 a w hF hM => ?_)
  refine wl (eL 34 3 0 (v := .agg #[.int .i64 sr, .int .i64 la]) hF hM (by kernel_rfl) rfl rfl (by kernel_rfl) (by kernel_rfl) fun a w hF hM => ?_)
  refine wl (eM 35 (v := .tuple #[.int .i64 (la + c1), .int .i64 0]) hF hM (by kernel_rfl) (yld_call (f := 20) (args := #[.slice (some ⟨bb4, 0, none⟩) 1 1, .agg #[.int .i64 sr, .int .i64 la]]) hF (by kernel_rfl) (fun _ => by kernel_rfl) (fun w hM => dl_to ⟨(dl_one k1).1, (dl_one k1).2.trans (by rw [hc1])⟩ (delay_w sr la (some ⟨bb4, 0, none⟩) [(xb, xq)] _ w (hM.roRow (k := 4) rfl)))) fun a w hF hM => ?_)
  refine sB 5 [(31, .tuple #[.int .i64 (la + c1), .int .i64 0]), (36, .int .i64 (la + c1)), (37, .int .i64 0), (11, .int .i64 (la + c1)), (12, .int .i64 0)] hF (by kernel_rfl) fun a hF => ?_
  refine wpList_nil ?_
  refine hK6 _ _ ?_
  refine wp_seq_k fun K7 hK7 => ?_
  refine wp_region_lit ?_
  refine sB 1 [(39, .int .u32 at_)] hF (by kernel_rfl) fun a hF => ?_
  refine wl (eP 40 (v0 := .int .i64 (IntKind.i64.wrap at_)) (v := .int .i64 at_) hF (by kernel_rfl) (fun _ => by kernel_rfl) (vi (IntWalk.i64_in _ (by omega))) fun a hF => ?_)
  refine sB 1 [(41, .pointer (some ⟨bb2, 0, none⟩))] hF (by kernel_rfl) fun a hF => ?_
  refine wl (eL 42 2 0 (v := .int .i64 xb) hF hM (by kernel_rfl) rfl rfl (by kernel_rfl) (by kernel_rfl) fun a w hF hM => ?_)
  refine sB 1 [(43, .agg #[.int .i64 at_, .int .i64 xb])] hF (by kernel_rfl) fun a hF => ?_
  refine wl (eN 44 5 (t := 64) (fun b => .slice (some ⟨b, 0, none⟩) 1 1) #[.int .i64 at_, .int .i64 xb] hF hM (by kernel_rfl) (fun _ => by kernel_rfl) fun bb5 a w hF hM => ?_)
  refine wl (eL 45 3 0 (v := .agg #[.int .i64 sr, .int .i64 la]) hF hM (by kernel_rfl) rfl rfl (by kernel_rfl) (by kernel_rfl) fun a w hF hM => ?_)
  refine wl (sOwn 6 (f := 27) (args := #[.slice (some ⟨bb5, 0, none⟩) 1 1, .agg #[.int .i64 sr, .int .i64 la]]) (mk := fun v => .tuple #[v, .int .i64 0]) (e := 3) (size := 1) (m := 1) (xs := (og.map (Value.int .i64))) hF hM (by kernel_rfl) rfl (by decide) (by kernel_rfl) (fun _ => by kernel_rfl) (drain_lit hog (drain_ok sr la (some ⟨bb5, 0, none⟩) [(at_, xb)] _ w (hM.roRow (k := 5) rfl) tr1 v1)) fun AA6 cc6 a w hF hM => ?_)
  refine sB 5 [(38, .tuple #[.slice AA6 1 cc6, .int .i64 0]), (47, .slice AA6 1 cc6), (48, .int .i64 0), (13, .slice AA6 1 cc6), (14, .int .i64 0)] hF (by kernel_rfl) fun a hF => ?_
  refine wpList_nil ?_
  refine hK7 _ _ ?_
  refine wp_seq_k fun K8 hK8 => ?_
  refine wp_region_lit ?_
  refine wl (eL 50 2 0 (v := .agg #[.int .i64 xb, .int .i64 xq]) hF hM (by kernel_rfl) rfl rfl (by kernel_rfl) (by kernel_rfl) fun a w hF hM => ?_)
  refine wl (eL 51 2 0 (v := .agg #[.int .i64 xb, .int .i64 xq]) hF hM (by kernel_rfl) rfl rfl (by kernel_rfl) (by kernel_rfl) fun a w hF hM => ?_)
  refine wl (eL 52 2 0 (v := .agg #[.int .i64 xb, .int .i64 xq]) hF hM (by kernel_rfl) rfl rfl (by kernel_rfl) (by kernel_rfl) fun a w hF hM => ?_)
  refine wl (eN 53 7 (t := 39) (fun b => .slice (some ⟨b, 0, none⟩) 3 3) #[.int .i64 xb, .int .i64 xq, .int .i64 xb, .int .i64 xq, .int .i64 xb, .int .i64 xq] hF hM (by kernel_rfl) (fun _ => by kernel_rfl) fun bb7 a w hF hM => ?_)
  refine wl (eL 54 3 0 (v := .agg #[.int .i64 sr, .int .i64 la]) hF hM (by kernel_rfl) rfl rfl (by kernel_rfl) (by kernel_rfl) fun a w hF hM => ?_)
  refine wl (eM 55 (v := .tuple #[.int .i64 (la + c1), .int .i64 0]) hF hM (by kernel_rfl) (yld_call (f := 20) (args := #[.slice (some ⟨bb7, 0, none⟩) 3 3, .agg #[.int .i64 sr, .int .i64 la]]) hF (by kernel_rfl) (fun _ => by kernel_rfl) (fun w hM => dl_to ⟨(dl_three k1).1, (dl_three k1).2.trans (by rw [hc1])⟩ (delay_w sr la (some ⟨bb7, 0, none⟩) [(xb, xq), (xb, xq), (xb, xq)] _ w (hM.roRow (k := 7) rfl)))) fun a w hF hM => ?_)
  refine sB 5 [(49, .tuple #[.int .i64 (la + c1), .int .i64 0]), (56, .int .i64 (la + c1)), (57, .int .i64 0), (15, .int .i64 (la + c1)), (16, .int .i64 0)] hF (by kernel_rfl) fun a hF => ?_
  refine wpList_nil ?_
  refine hK8 _ _ ?_
  refine wp_seq_k fun K9 hK9 => ?_
  refine wp_region_lit ?_
  refine sB 1 [(58, .int .i64 0)] hF (by kernel_rfl) fun a hF => ?_
  refine wl (eP 59 (v0 := .bool (decide (0 = 0))) (v := .bool true) hF (by kernel_rfl) (fun _ => by kernel_rfl) (bT (by omega)) fun a hF => ?_)
  refine sB 2 [(60, .bool true), (61, .int .i64 0)] hF (by kernel_rfl) fun a hF => ?_
  refine wl (eP 62 (v0 := .bool (decide (0 = 0))) (v := .bool true) hF (by kernel_rfl) (fun _ => by kernel_rfl) (bT (by omega)) fun a hF => ?_)
  refine sB 3 [(63, .bool true), (64, .bool true), (65, .int .i64 0)] hF (by kernel_rfl) fun a hF => ?_
  refine wl (eP 66 (v0 := .bool (decide (0 = 0))) (v := .bool true) hF (by kernel_rfl) (fun _ => by kernel_rfl) (bT (by omega)) fun a hF => ?_)
  refine sB 4 [(67, .bool true), (68, .bool true), (69, .slice AA6 1 cc6), (70, .int .i64 1)] hF (by kernel_rfl) fun a hF => ?_
  refine wl (eP 71 (v0 := .bool (decide (1 = 1))) (v := .bool true) hF (by kernel_rfl) (fun _ => by kernel_rfl) (bT (by omega)) fun a hF => ?_)
  refine sB 3 [(72, .bool true), (73, .bool true), (74, .slice AA6 1 cc6)] hF (by kernel_rfl) fun a hF => ?_
  refine wl (eM 75 (v := .pointer (some (ea AA6 (0)))) hF hM (by kernel_rfl) (yld_ix (kd := .i64) (e := 3) (len := 1) (cap := cc6) (i := 0) (size := 1) (A := AA6) hF rfl (by kernel_rfl) (by kernel_rfl) (by kernel_rfl) (by kernel_rfl) (by kernel_rfl) (roO 6 rfl) (by omega) (by omega) (by rw [List.length_map]; omega)) fun a w hF hM => ?_)
  refine wl (eM 76 (v := .int .i64 (nt og 0)) hF hM (by kernel_rfl) (yld_ro1 (A := AA6) (j := 0) hF rfl (by kernel_rfl) (by kernel_rfl) (roO 6 rfl) (by kernel_rfl) (nt_at (by omega))) fun a w hF hM => ?_)
  refine sB 1 [(77, .int .u32 at_)] hF (by kernel_rfl) fun a hF => ?_
  refine wl (eP 78 (v0 := .int .i64 (IntKind.i64.wrap at_)) (v := .int .i64 at_) hF (by kernel_rfl) (fun _ => by kernel_rfl) (vi (IntWalk.i64_in _ (by omega))) fun a hF => ?_)
  refine sB 1 [(79, .int .i64 (la + c1))] hF (by kernel_rfl) fun a hF => ?_
  refine wl (eP 80 (v0 := .int .i64 (IntKind.i64.wrap (at_ + (la + c1)))) (v := .int .i64 (at_ + (la + c1))) hF (by kernel_rfl) (fun _ => by kernel_rfl) (wi (by omega)) fun a hF => ?_)
  refine wl (eP 81 (v0 := .bool (decide (nt og 0 = at_ + (la + c1)))) (v := .bool true) hF (by kernel_rfl) (fun _ => by kernel_rfl) (bT (by omega)) fun a hF => ?_)
  refine sB 4 [(82, .bool true), (83, .bool true), (84, .int .i64 (la + c1)), (85, .int .i64 (la + c1))] hF (by kernel_rfl) fun a hF => ?_
  refine wl (eP 86 (v0 := .bool (decide (la + c1 = la + c1))) (v := .bool true) hF (by kernel_rfl) (fun _ => by kernel_rfl) (bT (by omega)) fun a hF => ?_)
  refine sB 2 [(87, .bool true), (8, .bool true)] hF (by kernel_rfl) fun a hF => ?_
  refine wpList_nil ?_
  refine hK9 _ _ ?_
  refine wp_ret ?_
  refine hR0 _ _ ?_
  refine ret_of hF hM (.tmp rfl (.nil)) ?_
  exact ⟨rfl, hM.bel⟩

end Go.Proofs.Ytoighcbbaacnaaa
