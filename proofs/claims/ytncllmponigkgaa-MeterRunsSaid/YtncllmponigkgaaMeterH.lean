/-
  The reference Run.
-/
import Derived.Test.YtncllmponigkgaaMeterG
namespace Go.Proofs.Ytncllmponigkgaa
open Go.RowKit
set_option linter.unusedVariables false
set_option linter.unusedSimpArgs false

theorem refRun_err (cb cr pb ps : Int) (A : Option Addr) (l : List (Int × Int)) (c : Nat) (w0 : World) (hA : Ro w0 A (flat2 l)) (h : ¬ runE cb cr pb ps l = 0) :
    Calls Try.prog 20 #[.agg #[.int .i64 cb, .int .i64 cr], .agg #[.int .i64 pb, .int .i64 ps], .slice A l.length c] w0 (Ret w0 (.tuple #[.slice none 0 0, .int .i64 (runE cb cr pb ps l)])) := by
  refine enterK 74 Try.func20 rfl rfl rfl ?_
  intro a hF Q0 hR0 hN0
  have hM := Mem.start w0
  replace hM := hM.addOld 1 hA (Nat.le_refl _)
  refine wp_seq_k fun K1 hK1 => ?_
  refine wp_region_lit ?_
  refine wl (eN 3 2 (t := 23) (fun b => .pointer (some ⟨b, 0, none⟩)) #[.int .i64 cb, .int .i64 cr] hF hM (by kernel_rfl) (fun _ => by kernel_rfl) fun bb1 a w hF hM => ?_)
  refine wl (eN 4 3 (t := 23) (fun b => .pointer (some ⟨b, 0, none⟩)) #[.int .i64 pb, .int .i64 ps] hF hM (by kernel_rfl) (fun _ => by kernel_rfl) fun bb2 a w hF hM => ?_)
  refine sB 2 [(6, .slice none 0 0), (7, .int .i64 0)] hF (by kernel_rfl) fun a hF => ?_
  refine wpList_nil ?_
  refine hK1 _ _ ?_
  refine wp_seq_k fun K2 hK2 => ?_
  refine wp_region_lit ?_
  refine wl (eL 16 2 0 (v := .agg #[.int .i64 cb, .int .i64 cr]) hF hM (by kernel_rfl) rfl rfl (by kernel_rfl) (by kernel_rfl) fun a w hF hM => ?_)
  refine wl (eL 17 3 0 (v := .agg #[.int .i64 pb, .int .i64 ps]) hF hM (by kernel_rfl) rfl rfl (by kernel_rfl) (by kernel_rfl) fun a w hF hM => ?_)
  refine wl (eM 18 (v := .tuple #[.agg #[.int .i64 0, .int .i64 (newC cb cr pb ps), .int .i64 (newP cb cr pb ps)], .int .i64 (newE cb cr pb ps)]) hF hM (by kernel_rfl) (yld_call (f := 12) (args := #[.agg #[.int .i64 cb, .int .i64 cr], .agg #[.int .i64 pb, .int .i64 ps]]) hF (by kernel_rfl) (fun _ => by kernel_rfl) (fun w hM => refNew_w cb cr pb ps w)) fun a w hF hM => ?_)
  refine sB 3 [(15, .tuple #[.agg #[.int .i64 0, .int .i64 (newC cb cr pb ps), .int .i64 (newP cb cr pb ps)], .int .i64 (newE cb cr pb ps)]), (19, .agg #[.int .i64 0, .int .i64 (newC cb cr pb ps), .int .i64 (newP cb cr pb ps)]), (20, .int .i64 (newE cb cr pb ps))] hF (by kernel_rfl) fun a hF => ?_
  refine wl (eN 8 4 (t := 31) (fun b => .pointer (some ⟨b, 0, none⟩)) #[.int .i64 0, .int .i64 0, .int .i64 0] hF hM (by kernel_rfl) (fun _ => by kernel_rfl) fun bb3 a w hF hM => ?_)
  refine wl (sStore (i := 4) (off := 0) (cs' := #[.int .i64 0, .int .i64 (newC cb cr pb ps), .int .i64 (newP cb cr pb ps)]) hF hM (by kernel_rfl) rfl rfl (by kernel_rfl) (by kernel_rfl) rfl (by kernel_rfl) fun w hM => ?_)
  refine sB 1 [(9, .int .i64 (newE cb cr pb ps))] hF (by kernel_rfl) fun a hF => ?_
  refine wpList_nil ?_
  refine hK2 _ _ ?_
  refine wp_seq_k fun K3 hK3 => ?_
  refine wp_seq_k fun K4 hK4 => ?_
  refine wp_region_lit ?_
  refine sB 2 [(21, .int .i64 (newE cb cr pb ps)), (22, .bool (!decide (newE cb cr pb ps = 0)))] hF (by kernel_rfl) fun a hF => ?_
  refine wpList_nil ?_
  refine hK4 _ _ ?_
  by_cases hz1 : newE cb cr pb ps = 0
  · skip
    have hz2 := newE_ok hz1
    replace hF := hF.c hF (i := 22) (v := .bool false) rfl (nT hz1)
    refine cF hF (by kernel_rfl) (by kernel_rfl) ?_
    refine wp_skip ?_
    refine hK3 _ _ ?_
    refine wp_seq_k fun K5 hK5 => ?_
    refine wp_seq_k fun K6 hK6 => ?_
    cases hz3 : (trB l)
    · skip
      refine wp_region_lit ?_
      refine sB 1 [(24, .slice A l.length c)] hF (by kernel_rfl) fun a hF => ?_
      refine wl (eM 25 (v := .bool false) hF hM (by kernel_rfl) (Yld.to (yld_call (f := 33) (args := #[.slice A l.length c]) hF (by kernel_rfl) (fun _ => by kernel_rfl) (fun w hM => rightTrace_w A l c w (hM.ok 1 _ rfl))) (congrArg Value.bool hz3)) fun a w hF hM => ?_)
      refine sB 1 [(26, .bool true)] hF (by kernel_rfl) fun a hF => ?_
      refine wpList_nil ?_
      refine hK6 _ _ ?_
      refine cT hF (by kernel_rfl) (by kernel_rfl) ?_
      refine wp_seq_k fun K7 hK7 => ?_
      refine wp_region_lit ?_
      refine sB 2 [(6, .slice none 0 0), (7, .int .i64 131)] hF (by kernel_rfl) fun a hF => ?_
      refine wpList_nil ?_
      refine hK7 _ _ ?_
      refine wp_ret ?_
      refine hR0 _ _ ?_
      refine ret_of hF hM (.tmp rfl (.tmp rfl (.nil))) ?_
      exact ⟨ret_eq (by unfold runE; rw [if_pos hz1]; unfold trE; rw [hz3]; rfl), hM.bel⟩
    · skip
      exact absurd (by unfold runE; rw [if_pos hz1]; unfold trE; rw [if_pos hz3]) h
  · skip
    replace hF := hF.c hF (i := 22) (v := .bool true) rfl (nF hz1)
    refine cT hF (by kernel_rfl) (by kernel_rfl) ?_
    refine wp_seq_k fun K8 hK8 => ?_
    refine wp_region_lit ?_
    refine sB 3 [(23, .int .i64 (newE cb cr pb ps)), (6, .slice none 0 0), (7, .int .i64 (newE cb cr pb ps))] hF (by kernel_rfl) fun a hF => ?_
    refine wpList_nil ?_
    refine hK8 _ _ ?_
    refine wp_ret ?_
    refine hR0 _ _ ?_
    refine ret_of hF hM (.tmp rfl (.tmp rfl (.nil))) ?_
    exact ⟨ret_eq (by unfold runE; rw [if_neg hz1]; rfl), hM.bel⟩

set_option maxRecDepth 100000 in
set_option maxHeartbeats 4000000 in
theorem refRun_ok (cb cr pb ps : Int) (A : Option Addr) (l : List (Int × Int)) (c : Nat) (w0 : World) (hA : Ro w0 A (flat2 l)) (e1 : newE cb cr pb ps = 0) (e2 : trE l = 0) :
    Calls Try.prog 20 #[.agg #[.int .i64 cb, .int .i64 cr], .agg #[.int .i64 pb, .int .i64 ps], .slice A l.length c] w0 (RetOwn w0 (fun v => .tuple #[v, .int .i64 0]) 3 1 l.length ((mrunF cb cr pb ps l).map (Value.int .i64))) := by
  have hll := (trE_ok e2).1
  have htb : trB l = true := by have := trE_ok e2; simp [trB, this.1, this.2]
  refine enterK 74 Try.func20 rfl rfl rfl ?_
  intro a hF Q0 hR0 hN0
  have hM := Mem.start w0
  replace hM := hM.addOld 1 hA (Nat.le_refl _)
  have hz1 := newE_ok e1
  refine wp_seq_k fun K1 hK1 => ?_
  refine wp_region_lit ?_
  refine wl (eN 3 2 (t := 23) (fun b => .pointer (some ⟨b, 0, none⟩)) #[.int .i64 cb, .int .i64 cr] hF hM (by kernel_rfl) (fun _ => by kernel_rfl) fun bb1 a w hF hM => ?_)
  refine wl (eN 4 3 (t := 23) (fun b => .pointer (some ⟨b, 0, none⟩)) #[.int .i64 pb, .int .i64 ps] hF hM (by kernel_rfl) (fun _ => by kernel_rfl) fun bb2 a w hF hM => ?_)
  refine sB 2 [(6, .slice none 0 0), (7, .int .i64 0)] hF (by kernel_rfl) fun a hF => ?_
  refine wpList_nil ?_
  refine hK1 _ _ ?_
  refine wp_seq_k fun K2 hK2 => ?_
  refine wp_region_lit ?_
  refine wl (eL 16 2 0 (v := .agg #[.int .i64 cb, .int .i64 cr]) hF hM (by kernel_rfl) rfl rfl (by kernel_rfl) (by kernel_rfl) fun a w hF hM => ?_)
  refine wl (eL 17 3 0 (v := .agg #[.int .i64 pb, .int .i64 ps]) hF hM (by kernel_rfl) rfl rfl (by kernel_rfl) (by kernel_rfl) fun a w hF hM => ?_)
  refine wl (eM 18 (v := .tuple #[.agg #[.int .i64 0, .int .i64 (cb * 1048576), .int .i64 (pb * 1048576)], .int .i64 0]) hF hM (by kernel_rfl) (yld_call (f := 12) (args := #[.agg #[.int .i64 cb, .int .i64 cr], .agg #[.int .i64 pb, .int .i64 ps]]) hF (by kernel_rfl) (fun _ => by kernel_rfl) (fun w hM => refNew_ok cb cr pb ps w e1)) fun a w hF hM => ?_)
  refine sB 3 [(15, .tuple #[.agg #[.int .i64 0, .int .i64 (cb * 1048576), .int .i64 (pb * 1048576)], .int .i64 0]), (19, .agg #[.int .i64 0, .int .i64 (cb * 1048576), .int .i64 (pb * 1048576)]), (20, .int .i64 0)] hF (by kernel_rfl) fun a hF => ?_
  refine wl (eN 8 4 (t := 31) (fun b => .pointer (some ⟨b, 0, none⟩)) #[.int .i64 0, .int .i64 0, .int .i64 0] hF hM (by kernel_rfl) (fun _ => by kernel_rfl) fun bb3 a w hF hM => ?_)
  refine wl (sStore (i := 4) (off := 0) (cs' := #[.int .i64 0, .int .i64 (cb * 1048576), .int .i64 (pb * 1048576)]) hF hM (by kernel_rfl) rfl rfl (by kernel_rfl) (by kernel_rfl) rfl (by kernel_rfl) fun w hM => ?_)
  refine sB 1 [(9, .int .i64 0)] hF (by kernel_rfl) fun a hF => ?_
  refine wpList_nil ?_
  refine hK2 _ _ ?_
  refine wp_seq_k fun K3 hK3 => ?_
  refine wp_seq_k fun K4 hK4 => ?_
  refine wp_region_lit ?_
  refine sB 1 [(21, .int .i64 0)] hF (by kernel_rfl) fun a hF => ?_
  refine wl (eP 22 (v0 := .bool (!decide (0 = 0))) (v := .bool false) hF (by kernel_rfl) (fun _ => by kernel_rfl) (nT (by omega)) fun a hF => ?_)
  refine wpList_nil ?_
  refine hK4 _ _ ?_
  refine cF hF (by kernel_rfl) (by kernel_rfl) ?_
  refine wp_skip ?_
  refine hK3 _ _ ?_
  refine wp_seq_k fun K5 hK5 => ?_
  refine wp_seq_k fun K6 hK6 => ?_
  refine wp_region_lit ?_
  refine sB 1 [(24, .slice A l.length c)] hF (by kernel_rfl) fun a hF => ?_
  refine wl (eM 25 (v := .bool true) hF hM (by kernel_rfl) (Yld.to (yld_call (f := 33) (args := #[.slice A l.length c]) hF (by kernel_rfl) (fun _ => by kernel_rfl) (fun w hM => rightTrace_w A l c w (hM.ok 1 _ rfl))) (congrArg Value.bool htb)) fun a w hF hM => ?_)
  refine sB 1 [(26, .bool false)] hF (by kernel_rfl) fun a hF => ?_
  refine wpList_nil ?_
  refine hK6 _ _ ?_
  refine cF hF (by kernel_rfl) (by kernel_rfl) ?_
  refine wp_skip ?_
  refine hK5 _ _ ?_
  refine wp_seq_k fun K7 hK7 => ?_
  refine wp_region_lit ?_
  refine sB 1 [(10, .slice none 0 0)] hF (by kernel_rfl) fun a hF => ?_
  refine wpList_nil ?_
  refine hK7 _ _ ?_
  refine wp_seq_k fun K8 hK8 => ?_
  refine wp_region_lit ?_
  refine sB 2 [(11, .slice none 0 0), (12, .slice none 0 0)] hF (by kernel_rfl) fun a hF => ?_
  refine wpList_nil ?_
  refine hK8 _ _ ?_
  refine wp_seq_k fun K9 hK9 => ?_
  refine wp_seq_k fun K10 hK10 => ?_
  refine wp_region_lit ?_
  refine sB 1 [(13, .int .i64 0)] hF (by kernel_rfl) fun a hF => ?_
  refine wpList_nil ?_
  refine hK10 _ _ ?_
  refine wp_block ?_
  replace hM := hM.addNil 5 3 1
  replace hM := hM.addNil 6 33 2
  replace hM := hM.addNil 7 33 2
  have hbk := newE_bk e1
  refine wp_loop_k (G := Nat × Int × Int × Int × List Int × List (Int × Int) × Nat × List (Int × Int) × Nat × Option Addr × Nat × Option Addr × Nat × Option Addr × Nat) (fun gg a w => Fr 74 [(10, some (.slice gg.2.2.2.2.2.2.2.2.2.1 gg.1 gg.2.2.2.2.2.2.2.2.2.2.1)), (11, some (.slice gg.2.2.2.2.2.2.2.2.2.2.2.1 gg.2.2.2.2.2.2.1 gg.2.2.2.2.2.2.2.2.2.2.2.2.1)), (12, some (.slice gg.2.2.2.2.2.2.2.2.2.2.2.2.2.1 gg.2.2.2.2.2.2.2.2.1 gg.2.2.2.2.2.2.2.2.2.2.2.2.2.2)), (13, some (.int .i64 (gg.1 : Int))), (2, some (.slice A l.length c)), (3, some (.pointer (some ⟨bb1, 0, none⟩))), (4, some (.pointer (some ⟨bb2, 0, none⟩))), (6, some (.slice none 0 0)), (7, some (.int .i64 0))] a ∧ Mem w0.heap.size w0 [(1, some (.ro A (flat2 l))), (2, some (.row bb1 23 #[.int .i64 cb, .int .i64 cr])), (3, some (.row bb2 23 #[.int .i64 pb, .int .i64 ps])), (5, some (.own (.slice gg.2.2.2.2.2.2.2.2.2.1 gg.1 gg.2.2.2.2.2.2.2.2.2.2.1) 3 1 gg.1 (gg.2.2.2.2.1.map (Value.int .i64)))), (6, some (.own (.slice gg.2.2.2.2.2.2.2.2.2.2.2.1 gg.2.2.2.2.2.2.1 gg.2.2.2.2.2.2.2.2.2.2.2.2.1) 33 2 gg.2.2.2.2.2.2.1 (flat2 gg.2.2.2.2.2.1))), (7, some (.own (.slice gg.2.2.2.2.2.2.2.2.2.2.2.2.2.1 gg.2.2.2.2.2.2.2.2.1 gg.2.2.2.2.2.2.2.2.2.2.2.2.2.2) 33 2 gg.2.2.2.2.2.2.2.2.1 (flat2 gg.2.2.2.2.2.2.2.1)))] w ∧ ((gg.1 : Int) ≤ (l.length : Int)) ∧ (mrun cb cr pb ps 0 (cb * 1048576) (pb * 1048576) l = gg.2.2.2.2.1 ++ mrun cb cr pb ps gg.2.1 gg.2.2.1 gg.2.2.2.1 (l.drop gg.1)) ∧ (gg.2.2.2.2.1.length = gg.1) ∧ (trOk gg.2.1 (l.drop gg.1) = true) ∧ (0 ≤ gg.2.1) ∧ (gg.2.1 ≤ 1099511627776) ∧ (Bkt cb cr gg.2.1 gg.2.2.1 gg.2.2.2.2.2.1) ∧ (Bkt pb ps gg.2.1 gg.2.2.2.1 gg.2.2.2.2.2.2.2.1) ∧ ((gg.2.2.2.2.2.1.length : Int) = (gg.2.2.2.2.2.2.1 : Int)) ∧ ((gg.2.2.2.2.2.2.2.1.length : Int) = (gg.2.2.2.2.2.2.2.2.1 : Int)) ∧ ((gg.2.2.2.2.2.2.1 : Int) ≤ (gg.1 : Int)) ∧ ((gg.2.2.2.2.2.2.2.2.1 : Int) ≤ (gg.1 : Int))) (fun gg => l.length - gg.1) (0, 0, cb * 1048576, pb * 1048576, [], [], 0, [], 0, none, 0, none, 0, none, 0) ?_ ?_
  · refine ⟨((((((((((Fr.nil hF).c hF (i := 7) rfl rfl).c hF (i := 6) rfl rfl).c hF (i := 4) rfl rfl).c hF (i := 3) rfl rfl).c hF (i := 2) rfl rfl).c hF (i := 13) rfl (vi (show (0 : Int) = (0 : Int) from by omega))).c hF (i := 12) rfl rfl).c hF (i := 11) rfl rfl).c hF (i := 10) rfl rfl), (hM.sub ((((((Sub.nil.c (k := 7) rfl rfl).c (k := 6) rfl rfl).c (k := 5) rfl rfl).c (k := 3) rfl rfl).c (k := 2) rfl rfl).c (k := 1) rfl rfl)), (show (0 : Int) ≤ (l.length : Int) from by omega), (show mrun cb cr pb ps 0 (cb * 1048576) (pb * 1048576) l = ([]) ++ mrun cb cr pb ps 0 (cb * 1048576) (pb * 1048576) (l.drop 0) from by simp), (show ([]).length = 0 from by rfl), (show trOk 0 (l.drop 0) = true from by simpa using (trE_ok e2).2), (show 0 ≤ 0 from by omega), (show 0 ≤ 1099511627776 from by omega), (show Bkt cb cr 0 (cb * 1048576) ([]) from by exact Bkt.nil hbk.1), (show Bkt pb ps 0 (pb * 1048576) ([]) from by exact Bkt.nil hbk.2), (show (([]).length : Int) = (0 : Int) from by rfl), (show (([]).length : Int) = (0 : Int) from by rfl), (show (0 : Int) ≤ (0 : Int) from by omega), (show (0 : Int) ≤ (0 : Int) from by omega)⟩
  · intro gg a w hI
    intro K11 hK11
    obtain ⟨k, la, co, pe, cl, gr, gn, pa, pn, G0, c0, G1, c1, G2, c2⟩ := gg
    try dsimp only at hI hK11
    obtain ⟨hF, hM, hz2, hz3, hz4, hz5, hz6, hz7, hz8, hz9, hz10, hz11, hz12, hz13⟩ := hI
    have hmr : mrun cb cr pb ps 0 (cb * 1048576) (pb * 1048576) l = cl ++ mrun cb cr pb ps la co pe (l.drop k) := by assumption
    have hBg : Bkt cb cr la co gr := by assumption
    have hBp : Bkt pb ps la pe pa := by assumption
    refine wp_seq_k fun K12 hK12 => ?_
    refine wp_seq_k fun K13 hK13 => ?_
    refine wp_region_lit ?_
    refine sB 4 [(27, .int .i64 (k : Int)), (28, .slice A l.length c), (29, .int .i64 (l.length : Int)), (30, .bool (decide ((k : Int) < (l.length : Int))))] hF (by kernel_rfl) fun a hF => ?_
    refine wpList_nil ?_
    refine hK13 _ _ ?_
    by_cases hz14 : (k : Int) < (l.length : Int)
    · skip
      replace hF := hF.c hF (i := 30) (v := .bool true) rfl (bT hz14)
      refine cT hF (by kernel_rfl) (by kernel_rfl) ?_
      refine wp_skip ?_
      refine hK12 _ _ ?_
      refine wp_seq_k fun K14 hK14 => ?_
      refine wp_block ?_
      refine wp_seq_k fun K15 hK15 => ?_
      refine wp_region_lit ?_
      refine sB 1 [(14, .int .i64 0)] hF (by kernel_rfl) fun a hF => ?_
      refine wpList_nil ?_
      refine hK15 _ _ ?_
      refine wp_seq_k fun K16 hK16 => ?_
      refine wp_block ?_
      refine wp_seq_k fun K17 hK17 => ?_
      have hq := tr_here (l := l) (k := k) (la := la) (by omega) (by assumption)
      have hckp : ckE pb ps (pa ++ [((pr l k).1, (pr l k).2)]) = 0 := ckE_zero hBp.bk (hBp.tr' (by omega) (by omega) (by omega) (by omega))
      have hckg : ckE cb cr (gr ++ [((pr l k).1, (pr l k).2)]) = 0 := ckE_zero hBg.bk (hBg.tr' (by omega) (by omega) (by omega) (by omega))
      have hfp := hBp.fits (t := (pr l k).1) (s := (pr l k).2) (by omega) (by omega) (by omega) (by omega)
      have hfg := hBg.fits (t := (pr l k).1) (s := (pr l k).2) (by omega) (by omega) (by omega) (by omega)
      cases hz15 : (cfB pb ps (pa ++ [((pr l k).1, (pr l k).2)]))
      · skip
        have hz16 := of_decide_eq_false (hfp.symm.trans hz15)
        refine rQ hM (by kernel_rfl) (by kernel_rfl) ?_
        refine eQL 34 3 0 (v := .agg #[.int .i64 pb, .int .i64 ps]) hF (by kernel_rfl) rfl rfl (by kernel_rfl) (by kernel_rfl) fun a hF => ?_
        refine eQ 35 (v0 := .slice G2 pn c2) (v := .slice G2 pn c2) hF (by kernel_rfl) (fun _ => by kernel_rfl) rfl fun a hF => ?_
        refine eQ 36 (v0 := .slice A l.length c) (v := .slice A l.length c) hF (by kernel_rfl) (fun _ => by kernel_rfl) rfl fun a hF => ?_
        refine eQ 37 (v0 := .int .i64 (k : Int)) (v := .int .i64 (k : Int)) hF (by kernel_rfl) (fun _ => by kernel_rfl) rfl fun a hF => ?_
        refine eQ2 38 (v := .pointer (some (ea A (k * 2)))) hF (by kernel_rfl) (yld_ix (kd := .i64) (e := 33) (len := l.length) (cap := c) (i := (k : Int)) (size := 2) (A := A) hF rfl (by kernel_rfl) (by kernel_rfl) (by kernel_rfl) (by kernel_rfl) (by kernel_rfl) (roK 1 rfl) (by omega) (by omega) (by rw [flat2_length]; omega)) fun a hF => ?_
        refine eQ2 39 (v := .agg #[.int .i64 (pr l k).1, .int .i64 (pr l k).2]) hF (by kernel_rfl) (yld_roM (A := A) (j := k * 2) (us := [.int .i64 (pr l k).1, .int .i64 (pr l k).2]) hF rfl (by kernel_rfl) (by kernel_rfl) (roK 1 rfl) (by kernel_rfl) rfl (pr_both (k := k) (by omega) (by omega))) fun a hF => ?_
        refine eQ2 40 (v := .bool false) hF (by kernel_rfl) (Yld.to (yld_call (f := 34) (args := #[.agg #[.int .i64 pb, .int .i64 ps], .slice G2 pn c2, .agg #[.int .i64 (pr l k).1, .int .i64 (pr l k).2]]) hF (by kernel_rfl) (fun _ => by kernel_rfl) (fun w hM => (by rw [show pn = pa.length from by first | omega | (simp; done) | (simp; omega)]; exact fit32_w pb ps G2 pa c2 (pr l k).1 (pr l k).2 w (ro_of_own (hM.ok 7 _ rfl)) (fun h => by have := own_nil hM (k := 7) rfl h; first | omega | (simp; omega)) (by omega) hckp))) (congrArg Value.bool hz15)) fun a hF => ?_
        refine eQ 41 (v0 := .bool true) (v := .bool true) hF (by kernel_rfl) (fun _ => by kernel_rfl) rfl fun a hF => ?_
        refine eQ 33 (v0 := .bool true) (v := .bool true) hF (by kernel_rfl) (fun _ => by kernel_rfl) rfl fun a hF => ?_
        refine wpQuiet_nil ?_
        intro w hM
        refine hK17 _ _ ?_
        refine cT hF (by kernel_rfl) (by kernel_rfl) ?_
        refine wp_region_lit ?_
        refine sB 1 [(14, .int .i64 2)] hF (by kernel_rfl) fun a hF => ?_
        refine wpList_nil ?_
        refine hK16 _ _ ?_
        refine wp_seq_k fun K18 hK18 => ?_
        refine wp_seq_k fun K19 hK19 => ?_
        refine wp_region_lit ?_
        refine sB 1 [(51, .int .i64 2)] hF (by kernel_rfl) fun a hF => ?_
        refine wl (eP 52 (v0 := .bool (!decide (2 = 2))) (v := .bool false) hF (by kernel_rfl) (fun _ => by kernel_rfl) (nT (by omega)) fun a hF => ?_)
        refine wpList_nil ?_
        refine hK19 _ _ ?_
        refine cF hF (by kernel_rfl) (by kernel_rfl) ?_
        refine wp_skip ?_
        refine hK18 _ _ ?_
        refine wp_seq_k fun K20 hK20 => ?_
        refine wp_seq_k fun K21 hK21 => ?_
        refine wp_region_lit ?_
        refine sB 1 [(60, .int .i64 2)] hF (by kernel_rfl) fun a hF => ?_
        refine wl (eP 61 (v0 := .bool (decide (2 = 0))) (v := .bool false) hF (by kernel_rfl) (fun _ => by kernel_rfl) (bF (by omega)) fun a hF => ?_)
        refine wpList_nil ?_
        refine hK21 _ _ ?_
        refine cF hF (by kernel_rfl) (by kernel_rfl) ?_
        refine wp_skip ?_
        refine hK20 _ _ ?_
        refine wp_region_lit ?_
        refine sB 2 [(69, .slice G0 k c0), (70, .int .i64 2)] hF (by kernel_rfl) fun a hF => ?_
        refine wl (eN 71 8 (t := 3) (fun b => .slice (some ⟨b, 0, none⟩) 1 1) #[.int .i64 2] hF hM (by kernel_rfl) (fun _ => by kernel_rfl) fun bb4 a w hF hM => ?_)
        refine wl (sApp 72 5 (e := 3) (size := 1) (bytes := 8) (z := .int .i64 0) (m := 1) (c := 1) (l := k) (cap := c0) (A := G0) (news := [.int .i64 2]) ((cl ++ [2]).map (Value.int .i64)) hF hM (by kernel_rfl) rfl (by kernel_rfl) (by kernel_rfl) (by kernel_rfl) rfl rfl rfl rfl (roR 8 rfl) (by simp [Value.oneCell']) (by omega) (by decide) (map_snoc' _ _ _) fun AA5 cc5 a w hF hM => ?_)
        refine sB 1 [(10, .slice AA5 (k + 1) cc5)] hF (by kernel_rfl) fun a hF => ?_
        refine wpList_nil ?_
        refine hK14 _ _ ?_
        refine wp_region_lit ?_
        refine sB 1 [(31, .int .i64 (k : Int))] hF (by kernel_rfl) fun a hF => ?_
        refine wl (eP 32 (v0 := .int .i64 (IntKind.i64.wrap ((k : Int) + 1))) (v := .int .i64 ((k : Int) + 1)) hF (by kernel_rfl) (fun _ => by kernel_rfl) (wi (by omega)) fun a hF => ?_)
        refine sB 1 [(13, .int .i64 ((k : Int) + 1))] hF (by kernel_rfl) fun a hF => ?_
        refine wpList_nil ?_
        refine hK11 _ _ ⟨(k + 1, (pr l k).1, up cb cr co ((pr l k).1 - la), up pb ps pe ((pr l k).1 - la), cl ++ [2], gr, gn, pa, pn, AA5, cc5, G1, c1, G2, c2), ⟨((((((((((Fr.nil hF).c hF (i := 7) rfl rfl).c hF (i := 6) rfl rfl).c hF (i := 4) rfl rfl).c hF (i := 3) rfl rfl).c hF (i := 2) rfl rfl).c hF (i := 13) rfl (vi (show ((k : Int) + 1 : Int) = ((k + 1) : Int) from by omega))).c hF (i := 12) rfl rfl).c hF (i := 11) rfl rfl).c hF (i := 10) rfl rfl), (hM.sub ((((((Sub.nil.c (k := 7) rfl rfl).c (k := 6) rfl rfl).c (k := 5) rfl rfl).c (k := 3) rfl rfl).c (k := 2) rfl rfl).c (k := 1) rfl rfl)), (show ((k + 1) : Int) ≤ (l.length : Int) from by omega), (show mrun cb cr pb ps 0 (cb * 1048576) (pb * 1048576) l = (cl ++ [2]) ++ mrun cb cr pb ps (pr l k).1 (up cb cr co ((pr l k).1 - la)) (up pb ps pe ((pr l k).1 - la)) (l.drop (k + 1)) from by exact mrun_step (drop_pr (by omega)) hmr (by unfold colr; omega) (by simp) (by simp)), (show (cl ++ [2]).length = (k + 1) from by first | omega | (simp; omega)), (show trOk (pr l k).1 (l.drop (k + 1)) = true from by exact hq.2.2.2.2), (show 0 ≤ (pr l k).1 from by omega), (show (pr l k).1 ≤ 1099511627776 from by omega), (show Bkt cb cr (pr l k).1 (up cb cr co ((pr l k).1 - la)) gr from by exact hBg.wait (by omega)), (show Bkt pb ps (pr l k).1 (up pb ps pe ((pr l k).1 - la)) pa from by exact hBp.wait (by omega)), (show (gr.length : Int) = (gn : Int) from by first | omega | (simp; omega)), (show (pa.length : Int) = (pn : Int) from by first | omega | (simp; omega)), (show (gn : Int) ≤ ((k + 1) : Int) from by omega), (show (pn : Int) ≤ ((k + 1) : Int) from by omega)⟩, (show l.length - (k + 1) < l.length - k from by omega)⟩
      · skip
        have hz17 := of_decide_eq_true (hfp.symm.trans hz15)
        refine rQ hM (by kernel_rfl) (by kernel_rfl) ?_
        refine eQL 34 3 0 (v := .agg #[.int .i64 pb, .int .i64 ps]) hF (by kernel_rfl) rfl rfl (by kernel_rfl) (by kernel_rfl) fun a hF => ?_
        refine eQ 35 (v0 := .slice G2 pn c2) (v := .slice G2 pn c2) hF (by kernel_rfl) (fun _ => by kernel_rfl) rfl fun a hF => ?_
        refine eQ 36 (v0 := .slice A l.length c) (v := .slice A l.length c) hF (by kernel_rfl) (fun _ => by kernel_rfl) rfl fun a hF => ?_
        refine eQ 37 (v0 := .int .i64 (k : Int)) (v := .int .i64 (k : Int)) hF (by kernel_rfl) (fun _ => by kernel_rfl) rfl fun a hF => ?_
        refine eQ2 38 (v := .pointer (some (ea A (k * 2)))) hF (by kernel_rfl) (yld_ix (kd := .i64) (e := 33) (len := l.length) (cap := c) (i := (k : Int)) (size := 2) (A := A) hF rfl (by kernel_rfl) (by kernel_rfl) (by kernel_rfl) (by kernel_rfl) (by kernel_rfl) (roK 1 rfl) (by omega) (by omega) (by rw [flat2_length]; omega)) fun a hF => ?_
        refine eQ2 39 (v := .agg #[.int .i64 (pr l k).1, .int .i64 (pr l k).2]) hF (by kernel_rfl) (yld_roM (A := A) (j := k * 2) (us := [.int .i64 (pr l k).1, .int .i64 (pr l k).2]) hF rfl (by kernel_rfl) (by kernel_rfl) (roK 1 rfl) (by kernel_rfl) rfl (pr_both (k := k) (by omega) (by omega))) fun a hF => ?_
        refine eQ2 40 (v := .bool true) hF (by kernel_rfl) (Yld.to (yld_call (f := 34) (args := #[.agg #[.int .i64 pb, .int .i64 ps], .slice G2 pn c2, .agg #[.int .i64 (pr l k).1, .int .i64 (pr l k).2]]) hF (by kernel_rfl) (fun _ => by kernel_rfl) (fun w hM => (by rw [show pn = pa.length from by first | omega | (simp; done) | (simp; omega)]; exact fit32_w pb ps G2 pa c2 (pr l k).1 (pr l k).2 w (ro_of_own (hM.ok 7 _ rfl)) (fun h => by have := own_nil hM (k := 7) rfl h; first | omega | (simp; omega)) (by omega) hckp))) (congrArg Value.bool hz15)) fun a hF => ?_
        refine eQ 41 (v0 := .bool false) (v := .bool false) hF (by kernel_rfl) (fun _ => by kernel_rfl) rfl fun a hF => ?_
        refine eQ 33 (v0 := .bool false) (v := .bool false) hF (by kernel_rfl) (fun _ => by kernel_rfl) rfl fun a hF => ?_
        refine wpQuiet_nil ?_
        intro w hM
        refine hK17 _ _ ?_
        refine cF hF (by kernel_rfl) (by kernel_rfl) ?_
        refine wp_seq_k fun K22 hK22 => ?_
        cases hz18 : (cfB cb cr (gr ++ [((pr l k).1, (pr l k).2)]))
        · skip
          have hz19 := of_decide_eq_false (hfg.symm.trans hz18)
          refine rQ hM (by kernel_rfl) (by kernel_rfl) ?_
          refine eQL 43 2 0 (v := .agg #[.int .i64 cb, .int .i64 cr]) hF (by kernel_rfl) rfl rfl (by kernel_rfl) (by kernel_rfl) fun a hF => ?_
          refine eQ 44 (v0 := .slice G1 gn c1) (v := .slice G1 gn c1) hF (by kernel_rfl) (fun _ => by kernel_rfl) rfl fun a hF => ?_
          refine eQ 45 (v0 := .slice A l.length c) (v := .slice A l.length c) hF (by kernel_rfl) (fun _ => by kernel_rfl) rfl fun a hF => ?_
          refine eQ 46 (v0 := .int .i64 (k : Int)) (v := .int .i64 (k : Int)) hF (by kernel_rfl) (fun _ => by kernel_rfl) rfl fun a hF => ?_
          refine eQ2 47 (v := .pointer (some (ea A (k * 2)))) hF (by kernel_rfl) (yld_ix (kd := .i64) (e := 33) (len := l.length) (cap := c) (i := (k : Int)) (size := 2) (A := A) hF rfl (by kernel_rfl) (by kernel_rfl) (by kernel_rfl) (by kernel_rfl) (by kernel_rfl) (roK 1 rfl) (by omega) (by omega) (by rw [flat2_length]; omega)) fun a hF => ?_
          refine eQ2 48 (v := .agg #[.int .i64 (pr l k).1, .int .i64 (pr l k).2]) hF (by kernel_rfl) (yld_roM (A := A) (j := k * 2) (us := [.int .i64 (pr l k).1, .int .i64 (pr l k).2]) hF rfl (by kernel_rfl) (by kernel_rfl) (roK 1 rfl) (by kernel_rfl) rfl (pr_both (k := k) (by omega) (by omega))) fun a hF => ?_
          refine eQ2 49 (v := .bool false) hF (by kernel_rfl) (Yld.to (yld_call (f := 34) (args := #[.agg #[.int .i64 cb, .int .i64 cr], .slice G1 gn c1, .agg #[.int .i64 (pr l k).1, .int .i64 (pr l k).2]]) hF (by kernel_rfl) (fun _ => by kernel_rfl) (fun w hM => (by rw [show gn = gr.length from by first | omega | (simp; done) | (simp; omega)]; exact fit32_w cb cr G1 gr c1 (pr l k).1 (pr l k).2 w (ro_of_own (hM.ok 6 _ rfl)) (fun h => by have := own_nil hM (k := 6) rfl h; first | omega | (simp; omega)) (by omega) hckg))) (congrArg Value.bool hz18)) fun a hF => ?_
          refine eQ 50 (v0 := .bool true) (v := .bool true) hF (by kernel_rfl) (fun _ => by kernel_rfl) rfl fun a hF => ?_
          refine eQ 42 (v0 := .bool true) (v := .bool true) hF (by kernel_rfl) (fun _ => by kernel_rfl) rfl fun a hF => ?_
          refine wpQuiet_nil ?_
          intro w hM
          refine hK22 _ _ ?_
          refine cT hF (by kernel_rfl) (by kernel_rfl) ?_
          refine wp_region_lit ?_
          refine sB 1 [(14, .int .i64 1)] hF (by kernel_rfl) fun a hF => ?_
          refine wpList_nil ?_
          refine hK16 _ _ ?_
          refine wp_seq_k fun K23 hK23 => ?_
          refine wp_seq_k fun K24 hK24 => ?_
          refine wp_region_lit ?_
          refine sB 1 [(51, .int .i64 1)] hF (by kernel_rfl) fun a hF => ?_
          refine wl (eP 52 (v0 := .bool (!decide (1 = 2))) (v := .bool true) hF (by kernel_rfl) (fun _ => by kernel_rfl) (nF (by omega)) fun a hF => ?_)
          refine wpList_nil ?_
          refine hK24 _ _ ?_
          refine cT hF (by kernel_rfl) (by kernel_rfl) ?_
          refine wp_region_lit ?_
          refine sB 3 [(53, .slice G2 pn c2), (54, .slice A l.length c), (55, .int .i64 (k : Int))] hF (by kernel_rfl) fun a hF => ?_
          refine wl (eM 56 (v := .pointer (some (ea A (k * 2)))) hF hM (by kernel_rfl) (yld_ix (kd := .i64) (e := 33) (len := l.length) (cap := c) (i := (k : Int)) (size := 2) (A := A) hF rfl (by kernel_rfl) (by kernel_rfl) (by kernel_rfl) (by kernel_rfl) (by kernel_rfl) (roK 1 rfl) (by omega) (by omega) (by rw [flat2_length]; omega)) fun a w hF hM => ?_)
          refine wl (eM 57 (v := .agg #[.int .i64 (pr l k).1, .int .i64 (pr l k).2]) hF hM (by kernel_rfl) (yld_roM (A := A) (j := k * 2) (us := [.int .i64 (pr l k).1, .int .i64 (pr l k).2]) hF rfl (by kernel_rfl) (by kernel_rfl) (roK 1 rfl) (by kernel_rfl) rfl (pr_both (k := k) (by omega) (by omega))) fun a w hF hM => ?_)
          refine wl (eN 58 9 (t := 33) (fun b => .slice (some ⟨b, 0, none⟩) 1 1) #[.int .i64 (pr l k).1, .int .i64 (pr l k).2] hF hM (by kernel_rfl) (fun _ => by kernel_rfl) fun bb6 a w hF hM => ?_)
          refine wl (sApp 59 7 (e := 33) (size := 2) (bytes := 16) (z := .agg #[.int .i64 0, .int .i64 0]) (m := 1) (c := 1) (l := pn) (cap := c2) (A := G2) (news := [.int .i64 (pr l k).1, .int .i64 (pr l k).2]) (flat2 (pa ++ [((pr l k).1, (pr l k).2)])) hF hM (by kernel_rfl) rfl (by kernel_rfl) (by kernel_rfl) (by kernel_rfl) rfl rfl rfl rfl (roR 9 rfl) (by simp [Value.oneCell']) (by omega) (by decide) (flat2_snoc' _ _ _) fun AA7 cc7 a w hF hM => ?_)
          refine sB 1 [(12, .slice AA7 (pn + 1) cc7)] hF (by kernel_rfl) fun a hF => ?_
          refine wpList_nil ?_
          refine hK23 _ _ ?_
          refine wp_seq_k fun K25 hK25 => ?_
          refine wp_seq_k fun K26 hK26 => ?_
          refine wp_region_lit ?_
          refine sB 1 [(60, .int .i64 1)] hF (by kernel_rfl) fun a hF => ?_
          refine wl (eP 61 (v0 := .bool (decide (1 = 0))) (v := .bool false) hF (by kernel_rfl) (fun _ => by kernel_rfl) (bF (by omega)) fun a hF => ?_)
          refine wpList_nil ?_
          refine hK26 _ _ ?_
          refine cF hF (by kernel_rfl) (by kernel_rfl) ?_
          refine wp_skip ?_
          refine hK25 _ _ ?_
          refine wp_region_lit ?_
          refine sB 2 [(69, .slice G0 k c0), (70, .int .i64 1)] hF (by kernel_rfl) fun a hF => ?_
          refine wl (eN 71 10 (t := 3) (fun b => .slice (some ⟨b, 0, none⟩) 1 1) #[.int .i64 1] hF hM (by kernel_rfl) (fun _ => by kernel_rfl) fun bb8 a w hF hM => ?_)
          refine wl (sApp 72 5 (e := 3) (size := 1) (bytes := 8) (z := .int .i64 0) (m := 1) (c := 1) (l := k) (cap := c0) (A := G0) (news := [.int .i64 1]) ((cl ++ [1]).map (Value.int .i64)) hF hM (by kernel_rfl) rfl (by kernel_rfl) (by kernel_rfl) (by kernel_rfl) rfl rfl rfl rfl (roR 10 rfl) (by simp [Value.oneCell']) (by omega) (by decide) (map_snoc' _ _ _) fun AA9 cc9 a w hF hM => ?_)
          refine sB 1 [(10, .slice AA9 (k + 1) cc9)] hF (by kernel_rfl) fun a hF => ?_
          refine wpList_nil ?_
          refine hK14 _ _ ?_
          refine wp_region_lit ?_
          refine sB 1 [(31, .int .i64 (k : Int))] hF (by kernel_rfl) fun a hF => ?_
          refine wl (eP 32 (v0 := .int .i64 (IntKind.i64.wrap ((k : Int) + 1))) (v := .int .i64 ((k : Int) + 1)) hF (by kernel_rfl) (fun _ => by kernel_rfl) (wi (by omega)) fun a hF => ?_)
          refine sB 1 [(13, .int .i64 ((k : Int) + 1))] hF (by kernel_rfl) fun a hF => ?_
          refine wpList_nil ?_
          refine hK11 _ _ ⟨(k + 1, (pr l k).1, up cb cr co ((pr l k).1 - la), up pb ps pe ((pr l k).1 - la) - (pr l k).2 * 1048576, cl ++ [1], gr, gn, pa ++ [((pr l k).1, (pr l k).2)], pn + 1, AA9, cc9, G1, c1, AA7, cc7), ⟨((((((((((Fr.nil hF).c hF (i := 7) rfl rfl).c hF (i := 6) rfl rfl).c hF (i := 4) rfl rfl).c hF (i := 3) rfl rfl).c hF (i := 2) rfl rfl).c hF (i := 13) rfl (vi (show ((k : Int) + 1 : Int) = ((k + 1) : Int) from by omega))).c hF (i := 12) rfl rfl).c hF (i := 11) rfl rfl).c hF (i := 10) rfl rfl), (hM.sub ((((((Sub.nil.c (k := 7) rfl rfl).c (k := 6) rfl rfl).c (k := 5) rfl rfl).c (k := 3) rfl rfl).c (k := 2) rfl rfl).c (k := 1) rfl rfl)), (show ((k + 1) : Int) ≤ (l.length : Int) from by omega), (show mrun cb cr pb ps 0 (cb * 1048576) (pb * 1048576) l = (cl ++ [1]) ++ mrun cb cr pb ps (pr l k).1 (up cb cr co ((pr l k).1 - la)) (up pb ps pe ((pr l k).1 - la) - (pr l k).2 * 1048576) (l.drop (k + 1)) from by exact mrun_step (drop_pr (by omega)) hmr (by unfold colr; omega) (by simp) (by simp)), (show (cl ++ [1]).length = (k + 1) from by first | omega | (simp; omega)), (show trOk (pr l k).1 (l.drop (k + 1)) = true from by exact hq.2.2.2.2), (show 0 ≤ (pr l k).1 from by omega), (show (pr l k).1 ≤ 1099511627776 from by omega), (show Bkt cb cr (pr l k).1 (up cb cr co ((pr l k).1 - la)) gr from by exact hBg.wait (by omega)), (show Bkt pb ps (pr l k).1 (up pb ps pe ((pr l k).1 - la) - (pr l k).2 * 1048576) (pa ++ [((pr l k).1, (pr l k).2)]) from by exact hBp.snoc (by omega) (by omega) (by omega) (by omega) (by omega)), (show (gr.length : Int) = (gn : Int) from by first | omega | (simp; omega)), (show ((pa ++ [((pr l k).1, (pr l k).2)]).length : Int) = ((pn + 1) : Int) from by first | omega | (simp; omega)), (show (gn : Int) ≤ ((k + 1) : Int) from by omega), (show ((pn + 1) : Int) ≤ ((k + 1) : Int) from by omega)⟩, (show l.length - (k + 1) < l.length - k from by omega)⟩
        · skip
          have hz20 := of_decide_eq_true (hfg.symm.trans hz18)
          refine rQ hM (by kernel_rfl) (by kernel_rfl) ?_
          refine eQL 43 2 0 (v := .agg #[.int .i64 cb, .int .i64 cr]) hF (by kernel_rfl) rfl rfl (by kernel_rfl) (by kernel_rfl) fun a hF => ?_
          refine eQ 44 (v0 := .slice G1 gn c1) (v := .slice G1 gn c1) hF (by kernel_rfl) (fun _ => by kernel_rfl) rfl fun a hF => ?_
          refine eQ 45 (v0 := .slice A l.length c) (v := .slice A l.length c) hF (by kernel_rfl) (fun _ => by kernel_rfl) rfl fun a hF => ?_
          refine eQ 46 (v0 := .int .i64 (k : Int)) (v := .int .i64 (k : Int)) hF (by kernel_rfl) (fun _ => by kernel_rfl) rfl fun a hF => ?_
          refine eQ2 47 (v := .pointer (some (ea A (k * 2)))) hF (by kernel_rfl) (yld_ix (kd := .i64) (e := 33) (len := l.length) (cap := c) (i := (k : Int)) (size := 2) (A := A) hF rfl (by kernel_rfl) (by kernel_rfl) (by kernel_rfl) (by kernel_rfl) (by kernel_rfl) (roK 1 rfl) (by omega) (by omega) (by rw [flat2_length]; omega)) fun a hF => ?_
          refine eQ2 48 (v := .agg #[.int .i64 (pr l k).1, .int .i64 (pr l k).2]) hF (by kernel_rfl) (yld_roM (A := A) (j := k * 2) (us := [.int .i64 (pr l k).1, .int .i64 (pr l k).2]) hF rfl (by kernel_rfl) (by kernel_rfl) (roK 1 rfl) (by kernel_rfl) rfl (pr_both (k := k) (by omega) (by omega))) fun a hF => ?_
          refine eQ2 49 (v := .bool true) hF (by kernel_rfl) (Yld.to (yld_call (f := 34) (args := #[.agg #[.int .i64 cb, .int .i64 cr], .slice G1 gn c1, .agg #[.int .i64 (pr l k).1, .int .i64 (pr l k).2]]) hF (by kernel_rfl) (fun _ => by kernel_rfl) (fun w hM => (by rw [show gn = gr.length from by first | omega | (simp; done) | (simp; omega)]; exact fit32_w cb cr G1 gr c1 (pr l k).1 (pr l k).2 w (ro_of_own (hM.ok 6 _ rfl)) (fun h => by have := own_nil hM (k := 6) rfl h; first | omega | (simp; omega)) (by omega) hckg))) (congrArg Value.bool hz18)) fun a hF => ?_
          refine eQ 50 (v0 := .bool false) (v := .bool false) hF (by kernel_rfl) (fun _ => by kernel_rfl) rfl fun a hF => ?_
          refine eQ 42 (v0 := .bool false) (v := .bool false) hF (by kernel_rfl) (fun _ => by kernel_rfl) rfl fun a hF => ?_
          refine wpQuiet_nil ?_
          intro w hM
          refine hK22 _ _ ?_
          refine cF hF (by kernel_rfl) (by kernel_rfl) ?_
          refine wp_skip ?_
          refine hK16 _ _ ?_
          refine wp_seq_k fun K27 hK27 => ?_
          refine wp_seq_k fun K28 hK28 => ?_
          refine wp_region_lit ?_
          refine sB 1 [(51, .int .i64 0)] hF (by kernel_rfl) fun a hF => ?_
          refine wl (eP 52 (v0 := .bool (!decide (0 = 2))) (v := .bool true) hF (by kernel_rfl) (fun _ => by kernel_rfl) (nF (by omega)) fun a hF => ?_)
          refine wpList_nil ?_
          refine hK28 _ _ ?_
          refine cT hF (by kernel_rfl) (by kernel_rfl) ?_
          refine wp_region_lit ?_
          refine sB 3 [(53, .slice G2 pn c2), (54, .slice A l.length c), (55, .int .i64 (k : Int))] hF (by kernel_rfl) fun a hF => ?_
          refine wl (eM 56 (v := .pointer (some (ea A (k * 2)))) hF hM (by kernel_rfl) (yld_ix (kd := .i64) (e := 33) (len := l.length) (cap := c) (i := (k : Int)) (size := 2) (A := A) hF rfl (by kernel_rfl) (by kernel_rfl) (by kernel_rfl) (by kernel_rfl) (by kernel_rfl) (roK 1 rfl) (by omega) (by omega) (by rw [flat2_length]; omega)) fun a w hF hM => ?_)
          refine wl (eM 57 (v := .agg #[.int .i64 (pr l k).1, .int .i64 (pr l k).2]) hF hM (by kernel_rfl) (yld_roM (A := A) (j := k * 2) (us := [.int .i64 (pr l k).1, .int .i64 (pr l k).2]) hF rfl (by kernel_rfl) (by kernel_rfl) (roK 1 rfl) (by kernel_rfl) rfl (pr_both (k := k) (by omega) (by omega))) fun a w hF hM => ?_)
          refine wl (eN 58 11 (t := 33) (fun b => .slice (some ⟨b, 0, none⟩) 1 1) #[.int .i64 (pr l k).1, .int .i64 (pr l k).2] hF hM (by kernel_rfl) (fun _ => by kernel_rfl) fun bb10 a w hF hM => ?_)
          refine wl (sApp 59 7 (e := 33) (size := 2) (bytes := 16) (z := .agg #[.int .i64 0, .int .i64 0]) (m := 1) (c := 1) (l := pn) (cap := c2) (A := G2) (news := [.int .i64 (pr l k).1, .int .i64 (pr l k).2]) (flat2 (pa ++ [((pr l k).1, (pr l k).2)])) hF hM (by kernel_rfl) rfl (by kernel_rfl) (by kernel_rfl) (by kernel_rfl) rfl rfl rfl rfl (roR 11 rfl) (by simp [Value.oneCell']) (by omega) (by decide) (flat2_snoc' _ _ _) fun AA11 cc11 a w hF hM => ?_)
          refine sB 1 [(12, .slice AA11 (pn + 1) cc11)] hF (by kernel_rfl) fun a hF => ?_
          refine wpList_nil ?_
          refine hK27 _ _ ?_
          refine wp_seq_k fun K29 hK29 => ?_
          refine wp_seq_k fun K30 hK30 => ?_
          refine wp_region_lit ?_
          refine sB 1 [(60, .int .i64 0)] hF (by kernel_rfl) fun a hF => ?_
          refine wl (eP 61 (v0 := .bool (decide (0 = 0))) (v := .bool true) hF (by kernel_rfl) (fun _ => by kernel_rfl) (bT (by omega)) fun a hF => ?_)
          refine wpList_nil ?_
          refine hK30 _ _ ?_
          refine cT hF (by kernel_rfl) (by kernel_rfl) ?_
          refine wp_region_lit ?_
          refine sB 3 [(62, .slice G1 gn c1), (63, .slice A l.length c), (64, .int .i64 (k : Int))] hF (by kernel_rfl) fun a hF => ?_
          refine wl (eM 65 (v := .pointer (some (ea A (k * 2)))) hF hM (by kernel_rfl) (yld_ix (kd := .i64) (e := 33) (len := l.length) (cap := c) (i := (k : Int)) (size := 2) (A := A) hF rfl (by kernel_rfl) (by kernel_rfl) (by kernel_rfl) (by kernel_rfl) (by kernel_rfl) (roK 1 rfl) (by omega) (by omega) (by rw [flat2_length]; omega)) fun a w hF hM => ?_)
          refine wl (eM 66 (v := .agg #[.int .i64 (pr l k).1, .int .i64 (pr l k).2]) hF hM (by kernel_rfl) (yld_roM (A := A) (j := k * 2) (us := [.int .i64 (pr l k).1, .int .i64 (pr l k).2]) hF rfl (by kernel_rfl) (by kernel_rfl) (roK 1 rfl) (by kernel_rfl) rfl (pr_both (k := k) (by omega) (by omega))) fun a w hF hM => ?_)
          refine wl (eN 67 12 (t := 33) (fun b => .slice (some ⟨b, 0, none⟩) 1 1) #[.int .i64 (pr l k).1, .int .i64 (pr l k).2] hF hM (by kernel_rfl) (fun _ => by kernel_rfl) fun bb12 a w hF hM => ?_)
          refine wl (sApp 68 6 (e := 33) (size := 2) (bytes := 16) (z := .agg #[.int .i64 0, .int .i64 0]) (m := 1) (c := 1) (l := gn) (cap := c1) (A := G1) (news := [.int .i64 (pr l k).1, .int .i64 (pr l k).2]) (flat2 (gr ++ [((pr l k).1, (pr l k).2)])) hF hM (by kernel_rfl) rfl (by kernel_rfl) (by kernel_rfl) (by kernel_rfl) rfl rfl rfl rfl (roR 12 rfl) (by simp [Value.oneCell']) (by omega) (by decide) (flat2_snoc' _ _ _) fun AA13 cc13 a w hF hM => ?_)
          refine sB 1 [(11, .slice AA13 (gn + 1) cc13)] hF (by kernel_rfl) fun a hF => ?_
          refine wpList_nil ?_
          refine hK29 _ _ ?_
          refine wp_region_lit ?_
          refine sB 2 [(69, .slice G0 k c0), (70, .int .i64 0)] hF (by kernel_rfl) fun a hF => ?_
          refine wl (eN 71 13 (t := 3) (fun b => .slice (some ⟨b, 0, none⟩) 1 1) #[.int .i64 0] hF hM (by kernel_rfl) (fun _ => by kernel_rfl) fun bb14 a w hF hM => ?_)
          refine wl (sApp 72 5 (e := 3) (size := 1) (bytes := 8) (z := .int .i64 0) (m := 1) (c := 1) (l := k) (cap := c0) (A := G0) (news := [.int .i64 0]) ((cl ++ [0]).map (Value.int .i64)) hF hM (by kernel_rfl) rfl (by kernel_rfl) (by kernel_rfl) (by kernel_rfl) rfl rfl rfl rfl (roR 13 rfl) (by simp [Value.oneCell']) (by omega) (by decide) (map_snoc' _ _ _) fun AA15 cc15 a w hF hM => ?_)
          refine sB 1 [(10, .slice AA15 (k + 1) cc15)] hF (by kernel_rfl) fun a hF => ?_
          refine wpList_nil ?_
          refine hK14 _ _ ?_
          refine wp_region_lit ?_
          refine sB 1 [(31, .int .i64 (k : Int))] hF (by kernel_rfl) fun a hF => ?_
          refine wl (eP 32 (v0 := .int .i64 (IntKind.i64.wrap ((k : Int) + 1))) (v := .int .i64 ((k : Int) + 1)) hF (by kernel_rfl) (fun _ => by kernel_rfl) (wi (by omega)) fun a hF => ?_)
          refine sB 1 [(13, .int .i64 ((k : Int) + 1))] hF (by kernel_rfl) fun a hF => ?_
          refine wpList_nil ?_
          refine hK11 _ _ ⟨(k + 1, (pr l k).1, up cb cr co ((pr l k).1 - la) - (pr l k).2 * 1048576, up pb ps pe ((pr l k).1 - la) - (pr l k).2 * 1048576, cl ++ [0], gr ++ [((pr l k).1, (pr l k).2)], gn + 1, pa ++ [((pr l k).1, (pr l k).2)], pn + 1, AA15, cc15, AA13, cc13, AA11, cc11), ⟨((((((((((Fr.nil hF).c hF (i := 7) rfl rfl).c hF (i := 6) rfl rfl).c hF (i := 4) rfl rfl).c hF (i := 3) rfl rfl).c hF (i := 2) rfl rfl).c hF (i := 13) rfl (vi (show ((k : Int) + 1 : Int) = ((k + 1) : Int) from by omega))).c hF (i := 12) rfl rfl).c hF (i := 11) rfl rfl).c hF (i := 10) rfl rfl), (hM.sub ((((((Sub.nil.c (k := 7) rfl rfl).c (k := 6) rfl rfl).c (k := 5) rfl rfl).c (k := 3) rfl rfl).c (k := 2) rfl rfl).c (k := 1) rfl rfl)), (show ((k + 1) : Int) ≤ (l.length : Int) from by omega), (show mrun cb cr pb ps 0 (cb * 1048576) (pb * 1048576) l = (cl ++ [0]) ++ mrun cb cr pb ps (pr l k).1 (up cb cr co ((pr l k).1 - la) - (pr l k).2 * 1048576) (up pb ps pe ((pr l k).1 - la) - (pr l k).2 * 1048576) (l.drop (k + 1)) from by exact mrun_step (drop_pr (by omega)) hmr (by unfold colr; omega) (by simp) (by simp)), (show (cl ++ [0]).length = (k + 1) from by first | omega | (simp; omega)), (show trOk (pr l k).1 (l.drop (k + 1)) = true from by exact hq.2.2.2.2), (show 0 ≤ (pr l k).1 from by omega), (show (pr l k).1 ≤ 1099511627776 from by omega), (show Bkt cb cr (pr l k).1 (up cb cr co ((pr l k).1 - la) - (pr l k).2 * 1048576) (gr ++ [((pr l k).1, (pr l k).2)]) from by exact hBg.snoc (by omega) (by omega) (by omega) (by omega) (by omega)), (show Bkt pb ps (pr l k).1 (up pb ps pe ((pr l k).1 - la) - (pr l k).2 * 1048576) (pa ++ [((pr l k).1, (pr l k).2)]) from by exact hBp.snoc (by omega) (by omega) (by omega) (by omega) (by omega)), (show ((gr ++ [((pr l k).1, (pr l k).2)]).length : Int) = ((gn + 1) : Int) from by first | omega | (simp; omega)), (show ((pa ++ [((pr l k).1, (pr l k).2)]).length : Int) = ((pn + 1) : Int) from by first | omega | (simp; omega)), (show ((gn + 1) : Int) ≤ ((k + 1) : Int) from by omega), (show ((pn + 1) : Int) ≤ ((k + 1) : Int) from by omega)⟩, (show l.length - (k + 1) < l.length - k from by omega)⟩
    · skip
      replace hF := hF.c hF (i := 30) (v := .bool false) rfl (bF hz14)
      refine cF hF (by kernel_rfl) (by kernel_rfl) ?_
      refine wp_exit ?_
      refine hK9 _ _ ?_
      refine wp_seq_k fun K31 hK31 => ?_
      refine wp_region_lit ?_
      refine sB 3 [(73, .slice G0 k c0), (6, .slice G0 k c0), (7, .int .i64 0)] hF (by kernel_rfl) fun a hF => ?_
      refine wpList_nil ?_
      refine hK31 _ _ ?_
      refine wp_ret ?_
      refine hR0 _ _ ?_
      refine ret_of hF hM (.tmp rfl (.tmp rfl (.nil))) ?_
      have hd : l.drop k = [] := List.drop_eq_nil_of_le (by omega)
      have ho := hM.ok 5 _ rfl
      have e : mrunF cb cr pb ps l = cl := by unfold mrunF; rw [hmr, hd]; simp [mrun]
      exact ⟨_, _, by rw [show l.length = k from by omega]; rfl, by rw [e, show l.length = k from by omega]; exact ho, hM.bel⟩

end Go.Proofs.Ytncllmponigkgaa
