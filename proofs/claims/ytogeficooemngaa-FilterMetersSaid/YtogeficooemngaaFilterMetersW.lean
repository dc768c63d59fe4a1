/-
  The frames that a meter passes conform to its peak bucket.
-/
import Derived.Test.YtogeficooemngaaFiS
import Derived.Test.YtogeficooemngaaCfA
import Derived.Test.YtogeficooemngaaConfPlain
import Derived.Test.YtogeficooemngaaOpenRec
namespace Go.Proofs.Ytogeficooemngaa
open Go.RowKit
set_option linter.unusedVariables false
set_option linter.unusedSimpArgs false

theorem li_one {cb cr pb ps : Int} (h : newE cb cr pb ps = 0) : liB [] [[0, cb, cr, pb, ps]] = true := by
  refine decide_eq_true ⟨by decide, by simp, fun k hk => absurd hk (Nat.not_lt_zero k), fun k hk => ?_⟩
  obtain rfl : k = 0 := by simp at hk; omega
  refine (okP_iff hk).2 ⟨?_, fun j hj => absurd hj (Nat.not_lt_zero j)⟩
  exact decide_eq_true ⟨Int.le_refl 0, by simp [rc], h⟩
theorem nw_one {cb cr pb ps : Int} : nwM [[0, cb, cr, pb, ps]] = [[0, cb * 1048576, pb * 1048576]] := rfl
def MInv (pb : Int) (mm : List (List Int)) (ta pe : Int) : Prop := (rc mm 0 0 = ta + 1000 ∧ rc mm 0 2 = pe) ∨ (rc mm 0 0 = 0 ∧ ta = 0 ∧ rc mm 0 2 = pb * 1048576 ∧ pe = pb * 1048576)
theorem up_full {b r x : Int} (hr : 0 ≤ r) (hx : 0 ≤ x) : up b r (b * 1048576) x = b * 1048576 := by
  have := Int.mul_nonneg hr hx
  unfold up
  omega
theorem MInv.up {pb ps : Int} {mm : List (List Int)} {ta pe t : Int} (h : MInv pb mm ta pe) (hs : 0 ≤ ps) (ht : ta ≤ t) (h0 : 0 ≤ t) : up pb ps (rc mm 0 2) (t + 1000 - rc mm 0 0) = up pb ps pe (t - ta) := by
  rcases h with ⟨h1, h2⟩ | ⟨h1, h2, h3, h4⟩
  · rw [h1, h2]
    congr 1
    omega
  · rw [h1, h2, h3, h4, up_full hs (by omega), up_full hs (by omega)]
theorem fm_step {cb cr pb ps fn_ : Int} {lz pl : List Int} {mm pm : List (List Int)} {i1 i3 i4 t pv ta pe : Int} {oo : List (Int × Int)} (e : psR [] [[0, cb, cr, pb, ps]] lz mm 0 i1 i3 i4 t = (pl, pm, pv)) (h5 : i3 ≤ 5) (h0 : flE [] [[0, cb, cr, pb, ps]] fn_ lz mm = 0)
    (ht : fn_ ≤ t ∧ t ≤ 549755813888) (h0t : 0 ≤ t) (hs : 1 ≤ i4 ∧ i4 ≤ 1048576) (hB : Bkt pb ps ta pe oo) (hI : MInv pb mm ta pe) (hta : ta ≤ t) (hl : oo.length < 200) :
    (pv = 0 ∧ Bkt pb ps t (up pb ps pe (t - ta) - i4 * 1048576) (oo ++ [(t, i4)]) ∧ MInv pb pm t (up pb ps pe (t - ta) - i4 * 1048576)) ∨ (pv = 5 ∧ Bkt pb ps t (up pb ps pe (t - ta)) oo ∧ MInv pb pm t (up pb ps pe (t - ta))) := by
  have hbk := bkE_ok hB.bk
  rcases psR_cases e with ⟨_, rfl, e'⟩ | ⟨h6, _⟩
  · have hln := fl_len (fl_p h0)
    rcases psM_cases e' with ⟨hp, _⟩ | ⟨k, hp, hk, _, rfl, hv⟩
    · have : polI 0 [[0, cb, cr, pb, ps]] = ((0 : Nat) : Int) := fnd_some (by simp) (decide_eq_true rfl) fun j hj => by omega
      omega
    · obtain rfl : k = 0 := by simp at hk; omega
      have hmk := mk_k h0 hk ht hs
      obtain ⟨u1, u2, u3⟩ := mk_unf hmk
      have hU := hI.up (ps := ps) (t := t) (by omega) hta h0t
      have hmm : 0 < mm.length := by have := hln.2.2.2.1; simp at this; omega
      have r0 : rc (mm.set 0 (pnew [[0, cb, cr, pb, ps]] mm 0 t i4)) 0 0 = t + 1000 := by
        rw [rc_set hmm, if_pos rfl]
        show mkL _ _ _ _ _ _ _ _ _ = _
        unfold mkL
        rw [if_pos hmk]
      have r2 : rc (mm.set 0 (pnew [[0, cb, cr, pb, ps]] mm 0 t i4)) 0 2 = if pcol [[0, cb, cr, pb, ps]] mm 0 t i4 = 2 then up pb ps pe (t - ta) else up pb ps pe (t - ta) - i4 * 1048576 := by
        rw [rc_set hmm, if_pos rfl, ← hU]
        exact u3
      have hc : pcol [[0, cb, cr, pb, ps]] mm 0 t i4 = colr (up cb cr (rc mm 0 1) (t + 1000 - rc mm 0 0)) (up pb ps pe (t - ta)) (i4 * 1048576) := by rw [← hU]; exact u1
      by_cases h2 : pcol [[0, cb, cr, pb, ps]] mm 0 t i4 = 2
      · rw [if_pos h2] at hv r2
        exact .inr ⟨hv, hB.wait hta, .inl ⟨r0, r2⟩⟩
      · rw [if_neg h2] at hv r2
        refine .inl ⟨hv, hB.snoc hta (by omega) hs hl ?_, .inl ⟨r0, r2⟩⟩
        rw [hc] at h2
        unfold colr at h2
        split at h2
        · exact absurd rfl h2
        · omega
  · exact absurd h5 h6
def FrB (l : List (List Int)) : Prop := ∀ k, k < l.length → (0 ≤ rc l k 0 ∧ rc l k 0 ≤ 65535) ∧ (0 ≤ rc l k 1 ∧ rc l k 1 ≤ 255) ∧ (0 ≤ rc l k 2 ∧ rc l k 2 ≤ 255) ∧ (0 ≤ rc l k 3 ∧ rc l k 3 ≤ 255) ∧ (0 ≤ rc l k 4 ∧ rc l k 4 ≤ 255)
theorem FrB.take {l : List (List Int)} {m : Nat} (h : FrB l) : FrB (l.take m) := fun k hk => by
  rw [List.length_take] at hk
  have e : ∀ j, rc (l.take m) k j = rc l k j := fun j => by unfold rc; rw [List.getElem?_take, if_pos (by omega)]
  rw [e, e, e, e, e]
  exact h k (by omega)
theorem fr_bd {l : List (List Int)} (h : FrB l) {k : Nat} (hk : k < l.length) : (0 ≤ rc l k 0 ∧ rc l k 0 ≤ 65535) ∧ (0 ≤ rc l k 1 ∧ rc l k 1 ≤ 255) ∧ (0 ≤ rc l k 2 ∧ rc l k 2 ≤ 255) ∧ (0 ≤ rc l k 3 ∧ rc l k 3 ≤ 255) ∧ (0 ≤ rc l k 4 ∧ rc l k 4 ≤ 255) := h k hk
theorem FrB.of {l : List (List Int)} (h : ∀ k, k < l.length → ∀ i kd, ([.u16, .u8, .u8, .u8, .u8] : List IntKind)[i]? = some kd → (Lit.int kd (rc l k i)).wf = true) : FrB l := fun k hk => by
  have h0 := bounds_u16 (h k hk 0 .u16 rfl)
  have h1 := bounds_u8 (h k hk 1 .u8 rfl)
  have h2 := bounds_u8 (h k hk 2 .u8 rfl)
  have h3 := bounds_u8 (h k hk 3 .u8 rfl)
  have h4 := bounds_u8 (h k hk 4 .u8 rfl)
  omega
set_option maxRecDepth 100000 in
set_option maxHeartbeats 40000000 in
theorem filterMeters_walk (A : Option Addr) (l : List (List Int)) (c : Nat) (cx px rx : Int) (w0 : World) (hA : Ro w0 A (flatK [.u16, .u8, .u8, .u8, .u8] l)) (hW : WR 5 l) (hb : FrB l) (hc : l.length ≤ c ∧ c ≤ 9223372036854775807) (h : 0 ≤ cx ∧ cx ≤ 65535 ∧ 0 ≤ px ∧ px ≤ 65535 ∧ 0 ≤ rx ∧ rx ≤ 65535) :
    Calls Try.prog 8 #[.slice A l.length c, .int .u16 cx, .int .u16 px, .int .u16 rx] w0 (Ret w0 (.bool true)) := by
 refine enterK 109 Try.func8 rfl rfl rfl ?_
 intro a hF Q0 hR0 hN0
 have hM := Mem.start w0
 replace hM := hM.addOld 1 hA (Nat.le_refl _)
 refine wp_seq_k fun K1 hK1 => ?_
 refine wp_region_lit ?_
 refine sB 1 [(8, .bool false)] hF (by kernel_rfl) fun a hF => ?_
 refine wpList_nil ?_
 refine hK1 _ _ ?_
 refine wp_seq_k fun K2 hK2 => ?_
 refine wp_seq_k fun K3 hK3 => ?_
 refine wp_region_lit ?_
 refine wl (eM 22 (v := .bool true) hF hM (by kernel_rfl) (yld_call (f := 9) (args := #[]) hF (by kernel_rfl) (fun _ => by kernel_rfl) (fun w hM => wakes_w w)) fun a w hF hM => ?_)
 refine sB 1 [(23, .bool false)] hF (by kernel_rfl) fun a hF => ?_
 refine wpList_nil ?_
 refine hK3 _ _ ?_
 refine cF hF (by kernel_rfl) (by kernel_rfl) ?_
 refine wp_skip ?_
 refine hK2 _ _ ?_
 refine wp_seq_k fun K4 hK4 => ?_
 refine wp_region_lit ?_
 refine sB 1 [(24, .int .u16 px)] hF (by kernel_rfl) fun a hF => ?_
 refine wl (eP 25 (v0 := .int .i64 (IntKind.i64.wrap px)) (v := .int .i64 px) hF (by kernel_rfl) (fun _ => by kernel_rfl) (vi (IntWalk.i64_in _ (by omega))) fun a hF => ?_)
 obtain ⟨pb, hpb⟩ : ∃ z : Int, 1 + px = z := ⟨_, rfl⟩
 have e_pb_ : IntKind.i64.wrap (1 + px) = pb := (w64 (by omega)).trans hpb
 refine wl (eP 26 (v0 := .int .i64 (IntKind.i64.wrap (1 + px))) (v := .int .i64 pb) hF (by kernel_rfl) (fun _ => by kernel_rfl) (vi (e_pb_)) fun a hF => ?_)
 refine sB 1 [(27, .int .u16 rx)] hF (by kernel_rfl) fun a hF => ?_
 refine wl (eP 28 (v0 := .int .i64 (IntKind.i64.wrap rx)) (v := .int .i64 rx) hF (by kernel_rfl) (fun _ => by kernel_rfl) (vi (IntWalk.i64_in _ (by omega))) fun a hF => ?_)
 obtain ⟨ps, hps⟩ : ∃ z : Int, 2 + rx = z := ⟨_, rfl⟩
 have e_ps_ : IntKind.i64.wrap (2 + rx) = ps := (w64 (by omega)).trans hps
 refine wl (eP 29 (v0 := .int .i64 (IntKind.i64.wrap (2 + rx))) (v := .int .i64 ps) hF (by kernel_rfl) (fun _ => by kernel_rfl) (vi (e_ps_)) fun a hF => ?_)
 refine sB 1 [(30, .agg #[.int .i64 pb, .int .i64 ps])] hF (by kernel_rfl) fun a hF => ?_
 refine wl (eN 9 2 (t := 67) (fun b => .pointer (some ⟨b, 0, none⟩)) #[.int .i64 0, .int .i64 0] hF hM (by kernel_rfl) (fun _ => by kernel_rfl) fun bb1 a w hF hM => ?_)
 refine wl (sStore (i := 2) (off := 0) (cs' := #[.int .i64 pb, .int .i64 ps]) hF hM (by kernel_rfl) rfl rfl (by kernel_rfl) (by kernel_rfl) rfl (by kernel_rfl) fun w hM => ?_)
 refine wpList_nil ?_
 refine hK4 _ _ ?_
 refine wp_seq_k fun K5 hK5 => ?_
 refine wp_region_lit ?_
 refine sB 1 [(32, .int .u16 cx)] hF (by kernel_rfl) fun a hF => ?_
 refine wl (eP 33 (v0 := .int .i64 (IntKind.i64.wrap cx)) (v := .int .i64 cx) hF (by kernel_rfl) (fun _ => by kernel_rfl) (vi (IntWalk.i64_in _ (by omega))) fun a hF => ?_)
 obtain ⟨cb, hcb⟩ : ∃ z : Int, 1 + cx = z := ⟨_, rfl⟩
 have e_cb_ : IntKind.i64.wrap (1 + cx) = cb := (w64 (by omega)).trans hcb
 refine wl (eP 34 (v0 := .int .i64 (IntKind.i64.wrap (1 + cx))) (v := .int .i64 cb) hF (by kernel_rfl) (fun _ => by kernel_rfl) (vi (e_cb_)) fun a hF => ?_)
 refine sB 1 [(35, .int .u16 rx)] hF (by kernel_rfl) fun a hF => ?_
 refine wl (eP 36 (v0 := .int .i64 (IntKind.i64.wrap rx)) (v := .int .i64 rx) hF (by kernel_rfl) (fun _ => by kernel_rfl) (vi (IntWalk.i64_in _ (by omega))) fun a hF => ?_)
 refine wl (eM 37 (v := .int .i64 (rx / 2)) hF hM (by kernel_rfl) (yld_quo rx 2 hF rfl (by kernel_rfl) (by kernel_rfl) (by kernel_rfl) (by decide) (qpos_i64 (by omega) (by omega) (by omega))) fun a w hF hM => ?_)
 obtain ⟨cr, hcr⟩ : ∃ z : Int, 1 + rx / 2 = z := ⟨_, rfl⟩
 have e_cr_ : IntKind.i64.wrap (1 + rx / 2) = cr := (w64 (by omega)).trans hcr
 have hnew : newE cb cr pb ps = 0 := by unfold newE bkE; omega
 have hli : liB ([] : List (List Int)) [[0, cb, cr, pb, ps]] = true := li_one hnew
 have hbk : bkE pb ps = 0 := by unfold bkE; omega
 refine wl (eP 38 (v0 := .int .i64 (IntKind.i64.wrap (1 + rx / 2))) (v := .int .i64 cr) hF (by kernel_rfl) (fun _ => by kernel_rfl) (vi (e_cr_)) fun a hF => ?_)
 refine sB 1 [(39, .agg #[.int .i64 cb, .int .i64 cr])] hF (by kernel_rfl) fun a hF => ?_
 refine wl (eL 40 2 0 (v := .agg #[.int .i64 pb, .int .i64 ps]) hF hM (by kernel_rfl) rfl rfl (by kernel_rfl) (by kernel_rfl) fun a w hF hM => ?_)
 refine sB 1 [(41, .agg #[.int .i64 0, .int .i64 cb, .int .i64 cr, .int .i64 pb, .int .i64 ps])] hF (by kernel_rfl) fun a hF => ?_
 refine wl (eN 42 3 (t := 69) (fun b => .slice (some ⟨b, 0, none⟩) 1 1) #[.int .i64 0, .int .i64 cb, .int .i64 cr, .int .i64 pb, .int .i64 ps] hF hM (by kernel_rfl) (fun _ => by kernel_rfl) fun bb2 a w hF hM => ?_)
 obtain ⟨nl, enl⟩ : ∃ z, nwL ([] : List (List Int)) = z := ⟨_, rfl⟩
 obtain ⟨nm, enm⟩ : ∃ z, nwM [[0, cb, cr, pb, ps]] = z := ⟨_, rfl⟩
 have hnm : WR 3 nm := enm ▸ nwM_wr
 have lnl : ([] : List (List Int)).length = nl.length := by rw [← enl]; exact nwL_len.symm
 have lnm : [[0, cb, cr, pb, ps]].length = nm.length := by rw [← enm]; exact nwM_len.symm
 have fnl : flE ([] : List (List Int)) [[0, cb, cr, pb, ps]] (-1000) nl nm = 0 := by rw [← enl, ← enm]; exact fl_new hli
 have gnl := fl_len (fl_p fnl)
 refine wl (sRo2 4 5 (f := 13) (args := #[.slice none 0 0, .slice (some ⟨bb2, 0, none⟩) 1 1]) (mk := (fun x y => .tuple #[.agg #[.slice none 0 0, .slice (some ⟨bb2, 0, none⟩) 1 1, .int .i64 (-1000), x, y], .int .i64 0])) (A3 := none) (A4 := none) (n3 := nl.length) (n4 := nm.length) (xs := (nl.map (Value.int .i64))) (ys := (flatR nm)) hF hM (by kernel_rfl) rfl (by decide) (by kernel_rfl) (fun _ => by kernel_rfl) (fiNew_ok none ([] : List (List Int)) 0 (some ⟨bb2, 0, none⟩) [[0, cb, cr, pb, ps]] 1 w Ro.nil WR.nil (hM.roRow (k := 3) rfl) (show WR 5 ([[0, cb, cr, pb, ps]] : List (List Int)) from by unfold WR; simp) hli enl enm lnl lnm) (.inr Free.none_) (.inr Free.none_) fun AA3 cc3 AA4 cc4 a w hF hM => ?_)
 refine sB 3 [(31, .tuple #[.agg #[.slice none 0 0, .slice (some ⟨bb2, 0, none⟩) 1 1, .int .i64 (-1000), .slice AA3 nl.length cc3, .slice AA4 nm.length cc4], .int .i64 0]), (44, .agg #[.slice none 0 0, .slice (some ⟨bb2, 0, none⟩) 1 1, .int .i64 (-1000), .slice AA3 nl.length cc3, .slice AA4 nm.length cc4]), (45, .int .i64 0)] hF (by kernel_rfl) fun a hF => ?_
 refine wl (eN 10 6 (t := 27) (fun b => .pointer (some ⟨b, 0, none⟩)) #[.slice none 0 0, .slice none 0 0, .int .i64 0, .slice none 0 0, .slice none 0 0] hF hM (by kernel_rfl) (fun _ => by kernel_rfl) fun bb5 a w hF hM => ?_)
 refine wl (sStore (i := 6) (off := 0) (cs' := #[.slice none 0 0, .slice (some ⟨bb2, 0, none⟩) 1 1, .int .i64 (-1000), .slice AA3 nl.length cc3, .slice AA4 nm.length cc4]) hF hM (by kernel_rfl) rfl rfl (by kernel_rfl) (by kernel_rfl) rfl (by kernel_rfl) fun w hM => ?_)
 refine sB 1 [(11, .int .i64 0)] hF (by kernel_rfl) fun a hF => ?_
 refine wpList_nil ?_
 refine hK5 _ _ ?_
 refine wp_seq_k fun K6 hK6 => ?_
 refine wp_seq_k fun K7 hK7 => ?_
 refine wp_region_lit ?_
 refine sB 1 [(46, .int .i64 0)] hF (by kernel_rfl) fun a hF => ?_
 refine wl (eP 47 (v0 := .bool (!decide (0 = 0))) (v := .bool false) hF (by kernel_rfl) (fun _ => by kernel_rfl) (nT (by omega)) fun a hF => ?_)
 refine wpList_nil ?_
 refine hK7 _ _ ?_
 refine cF hF (by kernel_rfl) (by kernel_rfl) ?_
 refine wp_skip ?_
 refine hK6 _ _ ?_
 refine wp_seq_k fun K8 hK8 => ?_
 refine wp_region_lit ?_
 refine sB 1 [(12, .slice none 0 0)] hF (by kernel_rfl) fun a hF => ?_
 refine wpList_nil ?_
 refine hK8 _ _ ?_
 refine wp_seq_k fun K9 hK9 => ?_
 refine wp_region_lit ?_
 refine sB 1 [(13, .int .i64 0)] hF (by kernel_rfl) fun a hF => ?_
 refine wpList_nil ?_
 refine hK9 _ _ ?_
 refine wp_seq_k fun K10 hK10 => ?_
 refine wp_seq_k fun K11 hK11 => ?_
 obtain ⟨lsl, e_lsl⟩ : ∃ x : List (List Int), x = l.take ((min (l.length : Int) 30).toNat) := ⟨_, rfl⟩
 have len_lsl : (lsl.length : Int) = min (l.length : Int) 30 := by rw [e_lsl, List.length_take]; omega
 have hW_lsl : WR 5 lsl := e_lsl ▸ WR.take hW
 replace hM := hM.roMore 7 1 (xs' := (flatK [.u16, .u8, .u8, .u8, .u8] lsl)) rfl (by rw [e_lsl]; exact flatK_sub _)
 have hb_lsl : FrB lsl := by rw [e_lsl]; exact hb.take
 refine wp_region_lit ?_
 refine sB 3 [(48, .slice A l.length c), (49, .slice A l.length c), (50, .int .i64 (l.length : Int))] hF (by kernel_rfl) fun a hF => ?_
 refine wl (eP 51 (v0 := .int .i64 (if 30 < (l.length : Int) then 30 else (l.length : Int))) (v := .int .i64 (min (l.length : Int) 30)) hF (by kernel_rfl) (fun _ => by kernel_rfl) (vi (min_if _ _)) fun a hF => ?_)
 refine wl (eM 52 (v := .slice A lsl.length c) hF hM (by kernel_rfl) (yld_slice0 (e := 54) (len := l.length) (cap := c) (m := lsl.length) (A := A) (i := min (l.length : Int) 30) hF rfl (by kernel_rfl) (by kernel_rfl) (by kernel_rfl) (by kernel_rfl) (by kernel_rfl) (by omega) (by omega)) fun a w hF hM => ?_)
 refine sB 2 [(53, .int .i64 (lsl.length : Int)), (54, .int .i64 0)] hF (by kernel_rfl) fun a hF => ?_
 refine wpList_nil ?_
 refine hK11 _ _ ?_
 refine wp_block ?_
 replace hM := hM.addNil 8 72 2
 have hst0 : MInv pb nm 0 (pb * 1048576) := by rw [← enm]; exact .inr ⟨rfl, rfl, rfl, rfl⟩
 refine wp_loop_k (G := Nat × Int × Int × Int × Int × List Int × List (List Int) × List (Int × Int) × Nat × Option Addr × Nat × Option Addr × Nat × Option Addr × Nat) (fun gg a w => Fr 109 [(12, some (.slice gg.2.2.2.2.2.2.2.2.2.2.2.2.2.1 gg.2.2.2.2.2.2.2.2.1 gg.2.2.2.2.2.2.2.2.2.2.2.2.2.2)), (13, some (.int .i64 gg.2.1)), (54, some (.int .i64 (gg.1 : Int))), (9, some (.pointer (some ⟨bb1, 0, none⟩))), (10, some (.pointer (some ⟨bb5, 0, none⟩))), (52, some (.slice A lsl.length c)), (53, some (.int .i64 (lsl.length : Int)))] a ∧ Mem w0.heap.size w0 [(1, some (.ro A (flatK [.u16, .u8, .u8, .u8, .u8] l))), (2, some (.row bb1 67 #[.int .i64 pb, .int .i64 ps])), (3, some (.row bb2 69 #[.int .i64 0, .int .i64 cb, .int .i64 cr, .int .i64 pb, .int .i64 ps])), (4, some (.ro gg.2.2.2.2.2.2.2.2.2.1 (gg.2.2.2.2.2.1.map (Value.int .i64)))), (5, some (.ro gg.2.2.2.2.2.2.2.2.2.2.2.1 (flatR gg.2.2.2.2.2.2.1))), (6, some (.row bb5 27 #[.slice none 0 0, .slice (some ⟨bb2, 0, none⟩) 1 1, .int .i64 gg.2.2.1, .slice gg.2.2.2.2.2.2.2.2.2.1 gg.2.2.2.2.2.1.length gg.2.2.2.2.2.2.2.2.2.2.1, .slice gg.2.2.2.2.2.2.2.2.2.2.2.1 gg.2.2.2.2.2.2.1.length gg.2.2.2.2.2.2.2.2.2.2.2.2.1])), (7, some (.ro A (flatK [.u16, .u8, .u8, .u8, .u8] lsl))), (8, some (.own (.slice gg.2.2.2.2.2.2.2.2.2.2.2.2.2.1 gg.2.2.2.2.2.2.2.2.1 gg.2.2.2.2.2.2.2.2.2.2.2.2.2.2) 72 2 gg.2.2.2.2.2.2.2.2.1 (flat2 gg.2.2.2.2.2.2.2.1)))] w ∧ ((gg.1 : Int) ≤ (lsl.length : Int)) ∧ (0 ≤ gg.2.1 ∧ gg.2.1 ≤ 65535 * (gg.1 : Int)) ∧ (-1000 ≤ gg.2.2.1) ∧ (gg.2.2.1 ≤ gg.2.1) ∧ (gg.2.2.2.1 ≤ gg.2.1) ∧ (flE ([] : List (List Int)) [[0, cb, cr, pb, ps]] gg.2.2.1 gg.2.2.2.2.2.1 gg.2.2.2.2.2.2.1 = 0) ∧ (WR 3 gg.2.2.2.2.2.2.1) ∧ ((gg.2.2.2.2.2.1.length : Int) = 0) ∧ ((gg.2.2.2.2.2.2.1.length : Int) = 1) ∧ (Bkt pb ps gg.2.2.2.1 gg.2.2.2.2.1 gg.2.2.2.2.2.2.2.1) ∧ (MInv pb gg.2.2.2.2.2.2.1 gg.2.2.2.1 gg.2.2.2.2.1) ∧ ((gg.2.2.2.2.2.2.2.1.length : Int) = (gg.2.2.2.2.2.2.2.2.1 : Int)) ∧ ((gg.2.2.2.2.2.2.2.2.1 : Int) ≤ (gg.1 : Int))) (fun gg => lsl.length - gg.1) (0, 0, -1000, 0, pb * 1048576, nl, nm, [], 0, AA3, cc3, AA4, cc4, none, 0) ?_ ?_
 ·refine ⟨((((((((Fr.nil hF).c hF (i := 53) rfl rfl).c hF (i := 52) rfl rfl).c hF (i := 10) rfl rfl).c hF (i := 9) rfl rfl).c hF (i := 54) rfl (vi (show (0 : Int) = (0 : Int) from by omega))).c hF (i := 13) rfl rfl).c hF (i := 12) rfl rfl), (hM.sub ((((((((Sub.nil.c (k := 8) rfl rfl).c (k := 7) rfl rfl).c (k := 6) rfl rfl).c (k := 5) rfl rfl).c (k := 4) rfl rfl).c (k := 3) rfl rfl).c (k := 2) rfl rfl).c (k := 1) rfl rfl)), (show (0 : Int) ≤ (lsl.length : Int) from by omega), (show 0 ≤ 0 ∧ 0 ≤ 65535 * (0 : Int) from by omega), (show -1000 ≤ (-1000) from by omega), (show (-1000) ≤ 0 from by omega), (show 0 ≤ 0 from by omega), (show flE ([] : List (List Int)) [[0, cb, cr, pb, ps]] (-1000) nl nm = 0 from by exact fnl), (show WR 3 nm from by exact hnm), (show (nl.length : Int) = 0 from by have := lnl; simp at this; omega), (show (nm.length : Int) = 1 from by have := lnm; simp at this; omega), (show Bkt pb ps 0 (pb * 1048576) ([]) from by exact Bkt.nil hbk), (show MInv pb nm 0 (pb * 1048576) from by exact hst0), (show (([]).length : Int) = (0 : Int) from by rfl), (show (0 : Int) ≤ (0 : Int) from by omega)⟩
 ·intro gg a w hI
  intro K12 hK12
  obtain ⟨k, tt, fn_, ta, pe, lz, mm, oo, on, G3, g3, G4, g4, G1, c1⟩ := gg
  try dsimp only at hI hK12
  obtain ⟨hF, hM, hz1, hz2, hz3, hz4, hz5, hz6, hz7, hz8, hz9, hz10, hz11, hz12, hz13⟩ := hI
  have hfl0 : flE ([] : List (List Int)) [[0, cb, cr, pb, ps]] fn_ lz mm = 0 := by assumption
  refine wp_seq_k fun K13 hK13 => ?_
  refine wp_region_lit ?_
  refine sB 1 [(55, .bool (decide ((k : Int) < (lsl.length : Int))))] hF (by kernel_rfl) fun a hF => ?_
  refine wpList_nil ?_
  refine hK13 _ _ ?_
  refine wp_seq_k fun K14 hK14 => ?_
  by_cases hz14 : (k : Int) < (lsl.length : Int)
  ·skip
   replace hF := hF.c hF (i := 55) (v := .bool true) rfl (bT hz14)
   refine cT hF (by kernel_rfl) (by kernel_rfl) ?_
   refine wp_skip ?_
   refine hK14 _ _ ?_
   refine wp_seq_k fun K15 hK15 => ?_
   refine wp_block ?_
   refine wp_seq_k fun K16 hK16 => ?_
   refine wp_region_lit ?_
   refine wl (eM 56 (v := .pointer (some (ea A (k * 5)))) hF hM (by kernel_rfl) (yld_ix (kd := .i64) (e := 54) (len := lsl.length) (cap := c) (i := (k : Int)) (size := 5) (A := A) hF rfl (by kernel_rfl) (by kernel_rfl) (by kernel_rfl) (by kernel_rfl) (by kernel_rfl) (roK 7 rfl) (by omega) (by omega) (by rw [flatK_length (ks := [.u16, .u8, .u8, .u8, .u8]) hW_lsl]; simp only [List.length_map, List.length_append, List.length_replicate, List.length_set, List.length_cons, List.length_nil, flat2_length, List.length_take]; omega)) fun a w hF hM => ?_)
   refine wl (eM 57 (v := .agg #[.int .u16 (rc lsl k 0), .int .u8 (rc lsl k 1), .int .u8 (rc lsl k 2), .int .u8 (rc lsl k 3), .int .u8 (rc lsl k 4)]) hF hM (by kernel_rfl) (yld_roM (A := A) (j := k * 5) (us := [.int .u16 (rc lsl k 0), .int .u8 (rc lsl k 1), .int .u8 (rc lsl k 2), .int .u8 (rc lsl k 3), .int .u8 (rc lsl k 4)]) hF rfl (by kernel_rfl) (by kernel_rfl) (roK 7 rfl) (by kernel_rfl) rfl (rcK_sub (ks := [.u16, .u8, .u8, .u8, .u8]) (k := k) (f := 0) hW_lsl (by omega) rfl)) fun a w hF hM => ?_)
   have := fr_bd hb_lsl (k := k) (by omega)
   refine wl (eN 15 9 (t := 54) (fun b => .pointer (some ⟨b, 0, none⟩)) #[.int .u16 0, .int .u8 0, .int .u8 0, .int .u8 0, .int .u8 0] hF hM (by kernel_rfl) (fun _ => by kernel_rfl) fun bb6 a w hF hM => ?_)
   refine wl (sStore (i := 9) (off := 0) (cs' := #[.int .u16 (rc lsl k 0), .int .u8 (rc lsl k 1), .int .u8 (rc lsl k 2), .int .u8 (rc lsl k 3), .int .u8 (rc lsl k 4)]) hF hM (by kernel_rfl) rfl rfl (by kernel_rfl) (by kernel_rfl) rfl (by kernel_rfl) fun w hM => ?_)
   refine wpList_nil ?_
   refine hK16 _ _ ?_
   refine wp_seq_k fun K17 hK17 => ?_
   refine wp_region_lit ?_
   refine sB 2 [(58, .int .i64 tt), (59, .pointer (some ⟨bb6, 0, none⟩))] hF (by kernel_rfl) fun a hF => ?_
   refine wl (eL 60 9 0 (v := .int .u16 (rc lsl k 0)) hF hM (by kernel_rfl) rfl rfl (by kernel_rfl) (by kernel_rfl) fun a w hF hM => ?_)
   refine wl (eP 61 (v0 := .int .i64 (IntKind.i64.wrap (rc lsl k 0))) (v := .int .i64 (rc lsl k 0)) hF (by kernel_rfl) (fun _ => by kernel_rfl) (vi (IntWalk.i64_in _ (by omega))) fun a hF => ?_)
   refine wl (eP 62 (v0 := .int .i64 (IntKind.i64.wrap (tt + rc lsl k 0))) (v := .int .i64 (tt + rc lsl k 0)) hF (by kernel_rfl) (fun _ => by kernel_rfl) (wi (by omega)) fun a hF => ?_)
   refine sB 1 [(13, .int .i64 (tt + rc lsl k 0))] hF (by kernel_rfl) fun a hF => ?_
   refine wpList_nil ?_
   refine hK17 _ _ ?_
   refine wp_seq_k fun K18 hK18 => ?_
   refine wp_region_lit ?_
   refine wl (eL 63 9 0 (v := .agg #[.int .u16 (rc lsl k 0), .int .u8 (rc lsl k 1), .int .u8 (rc lsl k 2), .int .u8 (rc lsl k 3), .int .u8 (rc lsl k 4)]) hF hM (by kernel_rfl) rfl rfl (by kernel_rfl) (by kernel_rfl) fun a w hF hM => ?_)
   obtain ⟨it1, e_it1⟩ : ∃ x : Int, x = rc lsl k 2 % 4 := ⟨_, rfl⟩
   obtain ⟨it3, e_it3⟩ : ∃ x : Int, x = rc lsl k 3 % 8 := ⟨_, rfl⟩
   obtain ⟨it4, e_it4⟩ : ∃ x : Int, x = 84 + rc lsl k 4 % 4 := ⟨_, rfl⟩
   have hv_it1 : viB it1 0 it3 it4 0 = true := decide_eq_true (by unfold viP; omega)
   refine wl (eM 64 (v := .agg #[.int .i64 it1, .int .i64 0, .int .i64 it3, .int .i64 it4, .int .i64 0]) hF hM (by kernel_rfl) (yld_call (f := 22) (args := #[.agg #[.int .u16 (rc lsl k 0), .int .u8 (rc lsl k 1), .int .u8 (rc lsl k 2), .int .u8 (rc lsl k 3), .int .u8 (rc lsl k 4)]]) hF (by kernel_rfl) (fun _ => by kernel_rfl) (fun w hM => by rw [e_it1, e_it3, e_it4]; exact item_w (rc lsl k 0) (rc lsl k 1) (rc lsl k 2) (rc lsl k 3) (rc lsl k 4) w (by omega))) fun a w hF hM => ?_)
   refine wl (eN 16 10 (t := 39) (fun b => .pointer (some ⟨b, 0, none⟩)) #[.int .i64 0, .int .i64 0, .int .i64 0, .int .i64 0, .int .i64 0] hF hM (by kernel_rfl) (fun _ => by kernel_rfl) fun bb7 a w hF hM => ?_)
   refine wl (sStore (i := 10) (off := 0) (cs' := #[.int .i64 it1, .int .i64 0, .int .i64 it3, .int .i64 it4, .int .i64 0]) hF hM (by kernel_rfl) rfl rfl (by kernel_rfl) (by kernel_rfl) rfl (by kernel_rfl) fun w hM => ?_)
   refine wpList_nil ?_
   refine hK18 _ _ ?_
   refine wp_seq_k fun K19 hK19 => ?_
   refine wp_region_lit ?_
   refine sB 1 [(65, .pointer (some ⟨bb7, 2, none⟩))] hF (by kernel_rfl) fun a hF => ?_
   refine wl (eL 66 10 2 (v := .int .i64 it3) hF hM (by kernel_rfl) rfl rfl (by kernel_rfl) (by kernel_rfl) fun a w hF hM => ?_)
   obtain ⟨i3m, hi3m⟩ : ∃ z : Int, it3 % 6 = z := ⟨_, rfl⟩
   have hvL : viB it1 0 i3m it4 0 = true := decide_eq_true (by unfold viP; omega)
   refine wl (eM 67 (v := .int .i64 i3m) hF hM (by kernel_rfl) (yld_rem it3 6 hF rfl (by kernel_rfl) (by kernel_rfl) (by kernel_rfl) (by omega) ((Int.tmod_eq_emod_of_nonneg (by omega)).trans hi3m)) fun a w hF hM => ?_)
   refine sB 1 [(68, .pointer (some ⟨bb7, 2, none⟩))] hF (by kernel_rfl) fun a hF => ?_
   refine wl (sStore (i := 10) (off := 2) (cs' := #[.int .i64 it1, .int .i64 0, .int .i64 i3m, .int .i64 it4, .int .i64 0]) hF hM (by kernel_rfl) rfl rfl (by kernel_rfl) (by kernel_rfl) rfl (by kernel_rfl) fun w hM => ?_)
   refine wpList_nil ?_
   refine hK19 _ _ ?_
   refine wp_seq_k fun K20 hK20 => ?_
   refine wp_region_lit ?_
   refine wl (eL 70 6 0 (v := .agg #[.slice none 0 0, .slice (some ⟨bb2, 0, none⟩) 1 1, .int .i64 fn_, .slice G3 lz.length g3, .slice G4 mm.length g4]) hF hM (by kernel_rfl) rfl rfl (by kernel_rfl) (by kernel_rfl) fun a w hF hM => ?_)
   refine wl (eL 71 10 0 (v := .agg #[.int .i64 it1, .int .i64 0, .int .i64 i3m, .int .i64 it4, .int .i64 0]) hF hM (by kernel_rfl) rfl rfl (by kernel_rfl) (by kernel_rfl) fun a w hF hM => ?_)
   refine sB 1 [(72, .int .i64 (tt + rc lsl k 0))] hF (by kernel_rfl) fun a hF => ?_
   obtain ⟨pl, pm, pv, epl⟩ : ∃ x y z, psR ([] : List (List Int)) [[0, cb, cr, pb, ps]] lz mm 0 it1 i3m it4 (tt + rc lsl k 0) = (x, y, z) := ⟨_, _, _, rfl⟩
   have lpl := psR_len epl
   have hpm := psR_wr epl (show WR 3 mm from by assumption)
   have fpl := psR_ok (i2 := 0) (i5 := 0) hfl0 hvL ⟨(by omega), (by omega)⟩ epl
   refine wl (sRo2 11 12 (f := 17) (args := #[.agg #[.slice none 0 0, .slice (some ⟨bb2, 0, none⟩) 1 1, .int .i64 fn_, .slice G3 lz.length g3, .slice G4 mm.length g4], .int .i64 0, .agg #[.int .i64 it1, .int .i64 0, .int .i64 i3m, .int .i64 it4, .int .i64 0], .int .i64 (tt + rc lsl k 0)]) (mk := (fun x y => .tuple #[.agg #[.slice none 0 0, .slice (some ⟨bb2, 0, none⟩) 1 1, .int .i64 (tt + rc lsl k 0), x, y], .int .i64 pv, .int .i64 0])) (A3 := G3) (A4 := G4) (n3 := pl.length) (n4 := pm.length) (xs := (pl.map (Value.int .i64))) (ys := (flatR pm)) hF hM (by kernel_rfl) rfl (by decide) (by kernel_rfl) (fun _ => by kernel_rfl) (fiPass_ok none ([] : List (List Int)) 0 (some ⟨bb2, 0, none⟩) [[0, cb, cr, pb, ps]] 1 fn_ G3 lz g3 G4 mm g4 0 it1 0 i3m it4 0 (tt + rc lsl k 0) w Ro.nil WR.nil (hM.roRow (k := 3) rfl) (show WR 5 ([[0, cb, cr, pb, ps]] : List (List Int)) from by unfold WR; simp) (hM.ok 4 _ rfl) (hM.ok 5 _ rfl) (show WR 3 mm from by assumption) hfl0 ⟨(by omega), (by omega)⟩ hvL ⟨(by omega), (by omega)⟩ epl lpl.1 lpl.2) (freeOr hM (k := 4) rfl (by simp only [List.length_map]; omega)) (freeOr hM (k := 5) rfl (by rw [flatR_length (show WR 3 mm from by assumption), flatR_length hpm]; omega)) fun AA8 cc8 AA9 cc9 a w hF hM => ?_)
   refine sB 4 [(69, .tuple #[.agg #[.slice none 0 0, .slice (some ⟨bb2, 0, none⟩) 1 1, .int .i64 (tt + rc lsl k 0), .slice AA8 pl.length cc8, .slice AA9 pm.length cc9], .int .i64 pv, .int .i64 0]), (74, .agg #[.slice none 0 0, .slice (some ⟨bb2, 0, none⟩) 1 1, .int .i64 (tt + rc lsl k 0), .slice AA8 pl.length cc8, .slice AA9 pm.length cc9]), (75, .int .i64 pv), (76, .int .i64 0)] hF (by kernel_rfl) fun a hF => ?_
   refine wl (eN 17 13 (t := 27) (fun b => .pointer (some ⟨b, 0, none⟩)) #[.slice none 0 0, .slice none 0 0, .int .i64 0, .slice none 0 0, .slice none 0 0] hF hM (by kernel_rfl) (fun _ => by kernel_rfl) fun bb10 a w hF hM => ?_)
   refine wl (sStore (i := 13) (off := 0) (cs' := #[.slice none 0 0, .slice (some ⟨bb2, 0, none⟩) 1 1, .int .i64 (tt + rc lsl k 0), .slice AA8 pl.length cc8, .slice AA9 pm.length cc9]) hF hM (by kernel_rfl) rfl rfl (by kernel_rfl) (by kernel_rfl) rfl (by kernel_rfl) fun w hM => ?_)
   refine sB 2 [(18, .int .i64 pv), (19, .int .i64 0)] hF (by kernel_rfl) fun a hF => ?_
   refine wpList_nil ?_
   refine hK20 _ _ ?_
   refine wp_seq_k fun K21 hK21 => ?_
   refine wp_seq_k fun K22 hK22 => ?_
   refine wp_region_lit ?_
   refine wl (eL 77 13 0 (v := .agg #[.slice none 0 0, .slice (some ⟨bb2, 0, none⟩) 1 1, .int .i64 (tt + rc lsl k 0), .slice AA8 pl.length cc8, .slice AA9 pm.length cc9]) hF hM (by kernel_rfl) rfl rfl (by kernel_rfl) (by kernel_rfl) fun a w hF hM => ?_)
   refine wl (sStore (i := 6) (off := 0) (cs' := #[.slice none 0 0, .slice (some ⟨bb2, 0, none⟩) 1 1, .int .i64 (tt + rc lsl k 0), .slice AA8 pl.length cc8, .slice AA9 pm.length cc9]) hF hM (by kernel_rfl) rfl rfl (by kernel_rfl) (by kernel_rfl) rfl (by kernel_rfl) fun w hM => ?_)
   refine wpList_nil ?_
   refine hK22 _ _ ?_
   refine wp_seq_k fun K23 hK23 => ?_
   have hst := fm_step (oo := oo) (pe := pe) (ta := ta) epl (by omega) hfl0 (by omega) (by omega) (by omega) (by assumption) (by assumption) (by omega) (by omega)
   by_cases hz15 : pv = 0
   ·skip
    have hst2 := hst.resolve_right (fun q => by have := q.1; omega)
    refine wp_region_lit ?_
    refine sB 1 [(78, .int .i64 0)] hF (by kernel_rfl) fun a hF => ?_
    refine wl (eP 79 (v0 := .bool (!decide (0 = 0))) (v := .bool false) hF (by kernel_rfl) (fun _ => by kernel_rfl) (nT (by omega)) fun a hF => ?_)
    refine sB 2 [(80, .bool false), (81, .int .i64 pv)] hF (by kernel_rfl) fun a hF => ?_
    refine wl (eP 82 (v0 := .bool (!decide (pv = 0))) (v := .bool false) hF (by kernel_rfl) (fun _ => by kernel_rfl) (nT hz15) fun a hF => ?_)
    refine sB 5 [(83, .bool false), (84, undef), (85, undef), (86, .bool false), (87, .bool false)] hF (by kernel_rfl) fun a hF => ?_
    refine wpList_nil ?_
    refine hK23 _ _ ?_
    refine cF hF (by kernel_rfl) (by kernel_rfl) ?_
    refine wp_skip ?_
    refine hK21 _ _ ?_
    refine wp_seq_k fun K24 hK24 => ?_
    refine wp_region_lit ?_
    refine sB 1 [(88, .int .i64 pv)] hF (by kernel_rfl) fun a hF => ?_
    refine wl (eP 89 (v0 := .bool (decide (pv = 0))) (v := .bool true) hF (by kernel_rfl) (fun _ => by kernel_rfl) (bT hz15) fun a hF => ?_)
    refine wpList_nil ?_
    refine hK24 _ _ ?_
    refine cT hF (by kernel_rfl) (by kernel_rfl) ?_
    refine wp_region_lit ?_
    refine sB 3 [(90, .slice G1 on c1), (91, .int .i64 (tt + rc lsl k 0)), (92, .pointer (some ⟨bb7, 3, none⟩))] hF (by kernel_rfl) fun a hF => ?_
    refine wl (eL 93 10 3 (v := .int .i64 it4) hF hM (by kernel_rfl) rfl rfl (by kernel_rfl) (by kernel_rfl) fun a w hF hM => ?_)
    refine sB 1 [(94, .agg #[.int .i64 (tt + rc lsl k 0), .int .i64 it4])] hF (by kernel_rfl) fun a hF => ?_
    refine wl (eN 95 14 (t := 72) (fun b => .slice (some ⟨b, 0, none⟩) 1 1) #[.int .i64 (tt + rc lsl k 0), .int .i64 it4] hF hM (by kernel_rfl) (fun _ => by kernel_rfl) fun bb11 a w hF hM => ?_)
    refine wl (sApp 96 8 (e := 72) (size := 2) (bytes := 16) (z := .agg #[.int .i64 0, .int .i64 0]) (m := 1) (c := 1) (l := on) (cap := c1) (A := G1) (news := [.int .i64 (tt + rc lsl k 0), .int .i64 it4]) (flat2 (oo ++ [(tt + rc lsl k 0, it4)])) hF hM (by kernel_rfl) rfl (by kernel_rfl) (by kernel_rfl) (by kernel_rfl) rfl rfl rfl rfl (roR 14 rfl) (by simp [Value.oneCell']) (by omega) (by decide) (flat2_snoc' _ _ _) fun AA12 cc12 a w hF hM => ?_)
    refine sB 1 [(12, .slice AA12 (on + 1) cc12)] hF (by kernel_rfl) fun a hF => ?_
    refine wpList_nil ?_
    refine hK15 _ _ ?_
    refine wp_region_lit ?_
    refine wl (eP 97 (v0 := .int .i64 (IntKind.i64.wrap ((k : Int) + 1))) (v := .int .i64 ((k : Int) + 1)) hF (by kernel_rfl) (fun _ => by kernel_rfl) (wi (by omega)) fun a hF => ?_)
    refine sB 1 [(54, .int .i64 ((k : Int) + 1))] hF (by kernel_rfl) fun a hF => ?_
    refine wpList_nil ?_
    replace hM := hM.move 4 11 rfl (by decide)
    replace hM := hM.move 5 12 rfl (by decide)
    refine hK12 _ _ ⟨(k + 1, tt + rc lsl k 0, tt + rc lsl k 0, tt + rc lsl k 0, up pb ps pe (tt + rc lsl k 0 - ta) - it4 * 1048576, pl, pm, oo ++ [(tt + rc lsl k 0, it4)], on + 1, AA8, cc8, AA9, cc9, AA12, cc12), ⟨((((((((Fr.nil hF).c hF (i := 53) rfl rfl).c hF (i := 52) rfl rfl).c hF (i := 10) rfl rfl).c hF (i := 9) rfl rfl).c hF (i := 54) rfl (vi (show ((k : Int) + 1 : Int) = ((k + 1) : Int) from by omega))).c hF (i := 13) rfl rfl).c hF (i := 12) rfl rfl), (hM.sub ((((((((Sub.nil.c (k := 8) rfl rfl).c (k := 7) rfl rfl).c (k := 6) rfl rfl).c (k := 5) rfl rfl).c (k := 4) rfl rfl).c (k := 3) rfl rfl).c (k := 2) rfl rfl).c (k := 1) rfl rfl)), (show ((k + 1) : Int) ≤ (lsl.length : Int) from by omega), (show 0 ≤ (tt + rc lsl k 0) ∧ (tt + rc lsl k 0) ≤ 65535 * ((k + 1) : Int) from by omega), (show -1000 ≤ (tt + rc lsl k 0) from by omega), (show (tt + rc lsl k 0) ≤ (tt + rc lsl k 0) from by omega), (show (tt + rc lsl k 0) ≤ (tt + rc lsl k 0) from by omega), (show flE ([] : List (List Int)) [[0, cb, cr, pb, ps]] (tt + rc lsl k 0) pl pm = 0 from by exact fpl), (show WR 3 pm from by exact hpm), (show (pl.length : Int) = 0 from by omega), (show (pm.length : Int) = 1 from by omega), (show Bkt pb ps (tt + rc lsl k 0) (up pb ps pe (tt + rc lsl k 0 - ta) - it4 * 1048576) (oo ++ [(tt + rc lsl k 0, it4)]) from by exact hst2.2.1), (show MInv pb pm (tt + rc lsl k 0) (up pb ps pe (tt + rc lsl k 0 - ta) - it4 * 1048576) from by exact hst2.2.2), (show ((oo ++ [(tt + rc lsl k 0, it4)]).length : Int) = ((on + 1) : Int) from by first | omega | (simp; omega)), (show ((on + 1) : Int) ≤ ((k + 1) : Int) from by omega)⟩, (show lsl.length - (k + 1) < lsl.length - k from by omega)⟩
   ·skip
    have hst2 := hst.resolve_left (fun q => absurd q.1 hz15)
    refine wp_region_lit ?_
    refine sB 1 [(78, .int .i64 0)] hF (by kernel_rfl) fun a hF => ?_
    refine wl (eP 79 (v0 := .bool (!decide (0 = 0))) (v := .bool false) hF (by kernel_rfl) (fun _ => by kernel_rfl) (nT (by omega)) fun a hF => ?_)
    refine sB 2 [(80, .bool false), (81, .int .i64 pv)] hF (by kernel_rfl) fun a hF => ?_
    refine wl (eP 82 (v0 := .bool (!decide (pv = 0))) (v := .bool true) hF (by kernel_rfl) (fun _ => by kernel_rfl) (nF hz15) fun a hF => ?_)
    refine sB 2 [(83, .bool true), (84, .int .i64 pv)] hF (by kernel_rfl) fun a hF => ?_
    refine wl (eP 85 (v0 := .bool (!decide (pv = 5))) (v := .bool false) hF (by kernel_rfl) (fun _ => by kernel_rfl) (nT hst2.1) fun a hF => ?_)
    refine sB 2 [(86, .bool false), (87, .bool false)] hF (by kernel_rfl) fun a hF => ?_
    refine wpList_nil ?_
    refine hK23 _ _ ?_
    refine cF hF (by kernel_rfl) (by kernel_rfl) ?_
    refine wp_skip ?_
    refine hK21 _ _ ?_
    refine wp_seq_k fun K25 hK25 => ?_
    refine wp_region_lit ?_
    refine sB 1 [(88, .int .i64 pv)] hF (by kernel_rfl) fun a hF => ?_
    refine wl (eP 89 (v0 := .bool (decide (pv = 0))) (v := .bool false) hF (by kernel_rfl) (fun _ => by kernel_rfl) (bF hz15) fun a hF => ?_)
    refine wpList_nil ?_
    refine hK25 _ _ ?_
    refine cF hF (by kernel_rfl) (by kernel_rfl) ?_
    refine wp_skip ?_
    refine hK15 _ _ ?_
    refine wp_region_lit ?_
    refine wl (eP 97 (v0 := .int .i64 (IntKind.i64.wrap ((k : Int) + 1))) (v := .int .i64 ((k : Int) + 1)) hF (by kernel_rfl) (fun _ => by kernel_rfl) (wi (by omega)) fun a hF => ?_)
    refine sB 1 [(54, .int .i64 ((k : Int) + 1))] hF (by kernel_rfl) fun a hF => ?_
    refine wpList_nil ?_
    replace hM := hM.move 4 11 rfl (by decide)
    replace hM := hM.move 5 12 rfl (by decide)
    refine hK12 _ _ ⟨(k + 1, tt + rc lsl k 0, tt + rc lsl k 0, tt + rc lsl k 0, up pb ps pe (tt + rc lsl k 0 - ta), pl, pm, oo, on, AA8, cc8, AA9, cc9, G1, c1), ⟨((((((((Fr.nil hF).c hF (i := 53) rfl rfl).c hF (i := 52) rfl rfl).c hF (i := 10) rfl rfl).c hF (i := 9) rfl rfl).c hF (i := 54) rfl (vi (show ((k : Int) + 1 : Int) = ((k + 1) : Int) from by omega))).c hF (i := 13) rfl rfl).c hF (i := 12) rfl rfl), (hM.sub ((((((((Sub.nil.c (k := 8) rfl rfl).c (k := 7) rfl rfl).c (k := 6) rfl rfl).c (k := 5) rfl rfl).c (k := 4) rfl rfl).c (k := 3) rfl rfl).c (k := 2) rfl rfl).c (k := 1) rfl rfl)), (show ((k + 1) : Int) ≤ (lsl.length : Int) from by omega), (show 0 ≤ (tt + rc lsl k 0) ∧ (tt + rc lsl k 0) ≤ 65535 * ((k + 1) : Int) from by omega), (show -1000 ≤ (tt + rc lsl k 0) from by omega), (show (tt + rc lsl k 0) ≤ (tt + rc lsl k 0) from by omega), (show (tt + rc lsl k 0) ≤ (tt + rc lsl k 0) from by omega), (show flE ([] : List (List Int)) [[0, cb, cr, pb, ps]] (tt + rc lsl k 0) pl pm = 0 from by exact fpl), (show WR 3 pm from by exact hpm), (show (pl.length : Int) = 0 from by omega), (show (pm.length : Int) = 1 from by omega), (show Bkt pb ps (tt + rc lsl k 0) (up pb ps pe (tt + rc lsl k 0 - ta)) oo from by exact hst2.2.1), (show MInv pb pm (tt + rc lsl k 0) (up pb ps pe (tt + rc lsl k 0 - ta)) from by exact hst2.2.2), (show (oo.length : Int) = (on : Int) from by first | omega | (simp; omega)), (show (on : Int) ≤ ((k + 1) : Int) from by omega)⟩, (show lsl.length - (k + 1) < lsl.length - k from by omega)⟩
  ·skip
   replace hF := hF.c hF (i := 55) (v := .bool false) rfl (bF hz14)
   refine cF hF (by kernel_rfl) (by kernel_rfl) ?_
   refine wp_exit ?_
   refine hK10 _ _ ?_
   refine wp_seq_k fun K26 hK26 => ?_
   have hyb := Bkt.yes (b := pb) (r := ps) (l := oo) (by assumption)
   have hyc := Bkt.ck (b := pb) (r := ps) (l := oo) (by assumption)
   refine wp_region_lit ?_
   refine wl (eL 99 2 0 (v := .agg #[.int .i64 pb, .int .i64 ps]) hF hM (by kernel_rfl) rfl rfl (by kernel_rfl) (by kernel_rfl) fun a w hF hM => ?_)
   refine sB 1 [(100, .slice G1 on c1)] hF (by kernel_rfl) fun a hF => ?_
   refine wl (eM 101 (v := .tuple #[.bool true, .int .i64 (ckE pb ps oo)]) hF hM (by kernel_rfl) (Yld.to (yld_call (f := 26) (args := #[.agg #[.int .i64 pb, .int .i64 ps], .slice G1 on c1]) hF (by kernel_rfl) (fun _ => by kernel_rfl) (fun w hM => (by rw [show on = oo.length from by first | omega | (simp; done) | (simp; omega)]; exact conforms_w pb ps G1 oo _ w (ro_of_own (hM.ok 8 _ rfl))))) (by rw [hyb])) fun a w hF hM => ?_)
   refine sB 5 [(98, .tuple #[.bool true, .int .i64 (ckE pb ps oo)]), (102, .bool true), (103, .int .i64 (ckE pb ps oo)), (20, .bool true), (21, .int .i64 (ckE pb ps oo))] hF (by kernel_rfl) fun a hF => ?_
   refine wpList_nil ?_
   refine hK26 _ _ ?_
   refine wp_seq_k fun K27 hK27 => ?_
   refine wp_region_lit ?_
   refine sB 1 [(104, .int .i64 (ckE pb ps oo))] hF (by kernel_rfl) fun a hF => ?_
   refine wl (eP 105 (v0 := .bool (decide (ckE pb ps oo = 0))) (v := .bool true) hF (by kernel_rfl) (fun _ => by kernel_rfl) (bT hyc) fun a hF => ?_)
   refine sB 4 [(106, .bool true), (107, .bool true), (108, .bool true), (8, .bool true)] hF (by kernel_rfl) fun a hF => ?_
   refine wpList_nil ?_
   refine hK27 _ _ ?_
   refine wp_ret ?_
   refine hR0 _ _ ?_
   refine ret_of hF hM (.tmp rfl (.nil)) ?_
   exact ⟨rfl, hM.bel⟩

end Go.Proofs.Ytogeficooemngaa
