/-
  meter.Run.
-/
import Derived.Test.YtncllmponigkgaaMeterB
namespace Go.Proofs.Ytncllmponigkgaa
open Go.RowKit
set_option linter.unusedVariables false
set_option linter.unusedSimpArgs false

def runE (cb cr pb ps : Int) (l : List (Int × Int)) : Int := if newE cb cr pb ps = 0 then trE l else newE cb cr pb ps
def mrunF (cb cr pb ps : Int) (l : List (Int × Int)) : List Int := mrun cb cr pb ps 0 (cb * 1048576) (pb * 1048576) l
theorem mrunF_len (cb cr pb ps : Int) (l : List (Int × Int)) : (mrunF cb cr pb ps l).length = l.length := mrun_length cb cr pb ps l _ _ _

theorem meterRun_err (cb cr pb ps : Int) (A : Option Addr) (l : List (Int × Int)) (c : Nat) (w0 : World) (hA : Ro w0 A (flat2 l)) (h : ¬ runE cb cr pb ps l = 0) :
    Calls Try.prog 19 #[.agg #[.int .i64 cb, .int .i64 cr], .agg #[.int .i64 pb, .int .i64 ps], .slice A l.length c] w0 (Ret w0 (.tuple #[.slice none 0 0, .int .i64 (runE cb cr pb ps l)])) := by
  refine enterK 62 Try.func19 rfl rfl rfl ?_
  intro a hF Q0 hR0 hN0
  have hM := Mem.start w0
  replace hM := hM.addOld 1 hA (Nat.le_refl _)
  refine wp_seq_k fun K1 hK1 => ?_
  refine wp_region_lit ?_
  refine wl (eN 3 2 (t := 23) (fun b => .pointer (some ⟨b, 0, none⟩)) #[.int .i64 cb, .int .i64 cr] hF hM (by kernel_rfl) (fun _ => by kernel_rfl) fun bb1 a w hF hM => ?_)
  refine wl (eN 4 3 (t := 23) (fun b => .pointer (some ⟨b, 0, none⟩)) #[.int .i64 pb, .int .i64 ps] hF hM (by kernel_rfl) (fun _ => by kernel_rfl) fun bb2 a w hF hM => ?_)
  refine sB 2 [(6, .slice none 0 0), (7, .int .i64 0)] hF (by kernel_rfl) fun a hF => ?_
  refine wpList_nil ?_
  refine hK1 _ _ ?_
  refine wp_seq_k fun K2 hK2 => ?_
  refine wp_region_lit ?_
  refine wl (eL 17 2 0 (v := .agg #[.int .i64 cb, .int .i64 cr]) hF hM (by kernel_rfl) rfl rfl (by kernel_rfl) (by kernel_rfl) fun a w hF hM => ?_)
  refine wl (eL 18 3 0 (v := .agg #[.int .i64 pb, .int .i64 ps]) hF hM (by kernel_rfl) rfl rfl (by kernel_rfl) (by kernel_rfl) fun a w hF hM => ?_)
  refine wl (eM 19 (v := .tuple #[.agg #[.int .i64 0, .int .i64 (newC cb cr pb ps), .int .i64 (newP cb cr pb ps)], .int .i64 (newE cb cr pb ps)]) hF hM (by kernel_rfl) (yld_call (f := 11) (args := #[.agg #[.int .i64 cb, .int .i64 cr], .agg #[.int .i64 pb, .int .i64 ps]]) hF (by kernel_rfl) (fun _ => by kernel_rfl) (fun w hM => meterNew_w cb cr pb ps w)) fun a w hF hM => ?_)
  refine sB 3 [(16, .tuple #[.agg #[.int .i64 0, .int .i64 (newC cb cr pb ps), .int .i64 (newP cb cr pb ps)], .int .i64 (newE cb cr pb ps)]), (20, .agg #[.int .i64 0, .int .i64 (newC cb cr pb ps), .int .i64 (newP cb cr pb ps)]), (21, .int .i64 (newE cb cr pb ps))] hF (by kernel_rfl) fun a hF => ?_
  refine wl (eN 8 4 (t := 31) (fun b => .pointer (some ⟨b, 0, none⟩)) #[.int .i64 0, .int .i64 0, .int .i64 0] hF hM (by kernel_rfl) (fun _ => by kernel_rfl) fun bb3 a w hF hM => ?_)
  refine wl (sStore (i := 4) (off := 0) (cs' := #[.int .i64 0, .int .i64 (newC cb cr pb ps), .int .i64 (newP cb cr pb ps)]) hF hM (by kernel_rfl) rfl rfl (by kernel_rfl) (by kernel_rfl) rfl (by kernel_rfl) fun w hM => ?_)
  refine sB 1 [(9, .int .i64 (newE cb cr pb ps))] hF (by kernel_rfl) fun a hF => ?_
  refine wpList_nil ?_
  refine hK2 _ _ ?_
  refine wp_seq_k fun K3 hK3 => ?_
  refine wp_seq_k fun K4 hK4 => ?_
  refine wp_region_lit ?_
  refine sB 2 [(22, .int .i64 (newE cb cr pb ps)), (23, .bool (!decide (newE cb cr pb ps = 0)))] hF (by kernel_rfl) fun a hF => ?_
  refine wpList_nil ?_
  refine hK4 _ _ ?_
  by_cases hz1 : newE cb cr pb ps = 0
  · skip
    have hz2 := newE_ok hz1
    replace hF := hF.c hF (i := 23) (v := .bool false) rfl (nT hz1)
    refine cF hF (by kernel_rfl) (by kernel_rfl) ?_
    refine wp_skip ?_
    refine hK3 _ _ ?_
    refine wp_seq_k fun K5 hK5 => ?_
    refine wp_seq_k fun K6 hK6 => ?_
    refine wp_region_lit ?_
    refine sB 1 [(25, .slice A l.length c)] hF (by kernel_rfl) fun a hF => ?_
    refine wl (eM 26 (v := .int .i64 (trE l)) hF hM (by kernel_rfl) (yld_call (f := 32) (args := #[.slice A l.length c]) hF (by kernel_rfl) (fun _ => by kernel_rfl) (fun w hM => checkTrace_w A l c w (hM.ok 1 _ rfl))) fun a w hF hM => ?_)
    refine sB 1 [(10, .int .i64 (trE l))] hF (by kernel_rfl) fun a hF => ?_
    refine wpList_nil ?_
    refine hK6 _ _ ?_
    refine wp_seq_k fun K7 hK7 => ?_
    refine wp_region_lit ?_
    refine sB 2 [(27, .int .i64 (trE l)), (28, .bool (!decide (trE l = 0)))] hF (by kernel_rfl) fun a hF => ?_
    refine wpList_nil ?_
    refine hK7 _ _ ?_
    by_cases hz3 : trE l = 0
    · skip
      have hz4 := trE_ok hz3
      exact absurd (by unfold runE; rw [if_pos hz1]; exact hz3) h
    · skip
      replace hF := hF.c hF (i := 28) (v := .bool true) rfl (nF hz3)
      refine cT hF (by kernel_rfl) (by kernel_rfl) ?_
      refine wp_seq_k fun K8 hK8 => ?_
      refine wp_region_lit ?_
      refine sB 3 [(29, .int .i64 (trE l)), (6, .slice none 0 0), (7, .int .i64 (trE l))] hF (by kernel_rfl) fun a hF => ?_
      refine wpList_nil ?_
      refine hK8 _ _ ?_
      refine wp_ret ?_
      refine hR0 _ _ ?_
      refine ret_of hF hM (.tmp rfl (.tmp rfl (.nil))) ?_
      exact ⟨ret_eq (by unfold runE; rw [if_pos hz1]; rfl), hM.bel⟩
  · skip
    replace hF := hF.c hF (i := 23) (v := .bool true) rfl (nF hz1)
    refine cT hF (by kernel_rfl) (by kernel_rfl) ?_
    refine wp_seq_k fun K9 hK9 => ?_
    refine wp_region_lit ?_
    refine sB 3 [(24, .int .i64 (newE cb cr pb ps)), (6, .slice none 0 0), (7, .int .i64 (newE cb cr pb ps))] hF (by kernel_rfl) fun a hF => ?_
    refine wpList_nil ?_
    refine hK9 _ _ ?_
    refine wp_ret ?_
    refine hR0 _ _ ?_
    refine ret_of hF hM (.tmp rfl (.tmp rfl (.nil))) ?_
    exact ⟨ret_eq (by unfold runE; rw [if_neg hz1]; rfl), hM.bel⟩

theorem set_fill {n k : Nat} (cs : List Int) (z x : Int) (hk : k < n) (hc : cs.length = k) : (cs ++ List.replicate (n - k) z).set k x = (cs ++ [x]) ++ List.replicate (n - (k + 1)) z := by
  obtain ⟨m, hm⟩ : ∃ m, n - k = m + 1 := ⟨n - k - 1, by omega⟩
  rw [hm, List.replicate_succ, show n - (k + 1) = m by omega, ← hc]
  simp

theorem meterRun_ok (cb cr pb ps : Int) (A : Option Addr) (l : List (Int × Int)) (c : Nat) (w0 : World) (hA : Ro w0 A (flat2 l)) (e1 : newE cb cr pb ps = 0) (e2 : trE l = 0) :
    Calls Try.prog 19 #[.agg #[.int .i64 cb, .int .i64 cr], .agg #[.int .i64 pb, .int .i64 ps], .slice A l.length c] w0 (RetOwn w0 (fun v => .tuple #[v, .int .i64 0]) 3 1 l.length ((mrunF cb cr pb ps l).map (Value.int .i64))) := by
  refine enterK 62 Try.func19 rfl rfl rfl ?_
  intro a hF Q0 hR0 hN0
  have hM := Mem.start w0
  replace hM := hM.addOld 1 hA (Nat.le_refl _)
  have hz1 := newE_ok e1
  have hz2 := trE_ok e2
  refine wp_seq_k fun K1 hK1 => ?_
  refine wp_region_lit ?_
  refine wl (eN 3 2 (t := 23) (fun b => .pointer (some ⟨b, 0, none⟩)) #[.int .i64 cb, .int .i64 cr] hF hM (by kernel_rfl) (fun _ => by kernel_rfl) fun bb1 a w hF hM => ?_)
  refine wl (eN 4 3 (t := 23) (fun b => .pointer (some ⟨b, 0, none⟩)) #[.int .i64 pb, .int .i64 ps] hF hM (by kernel_rfl) (fun _ => by kernel_rfl) fun bb2 a w hF hM => ?_)
  refine sB 2 [(6, .slice none 0 0), (7, .int .i64 0)] hF (by kernel_rfl) fun a hF => ?_
  refine wpList_nil ?_
  refine hK1 _ _ ?_
  refine wp_seq_k fun K2 hK2 => ?_
  refine wp_region_lit ?_
  refine wl (eL 17 2 0 (v := .agg #[.int .i64 cb, .int .i64 cr]) hF hM (by kernel_rfl) rfl rfl (by kernel_rfl) (by kernel_rfl) fun a w hF hM => ?_)
  refine wl (eL 18 3 0 (v := .agg #[.int .i64 pb, .int .i64 ps]) hF hM (by kernel_rfl) rfl rfl (by kernel_rfl) (by kernel_rfl) fun a w hF hM => ?_)
  refine wl (eM 19 (v := .tuple #[.agg #[.int .i64 0, .int .i64 (cb * 1048576), .int .i64 (pb * 1048576)], .int .i64 0]) hF hM (by kernel_rfl) (yld_call (f := 11) (args := #[.agg #[.int .i64 cb, .int .i64 cr], .agg #[.int .i64 pb, .int .i64 ps]]) hF (by kernel_rfl) (fun _ => by kernel_rfl) (fun w hM => meterNew_ok cb cr pb ps w e1)) fun a w hF hM => ?_)
  refine sB 3 [(16, .tuple #[.agg #[.int .i64 0, .int .i64 (cb * 1048576), .int .i64 (pb * 1048576)], .int .i64 0]), (20, .agg #[.int .i64 0, .int .i64 (cb * 1048576), .int .i64 (pb * 1048576)]), (21, .int .i64 0)] hF (by kernel_rfl) fun a hF => ?_
  refine wl (eN 8 4 (t := 31) (fun b => .pointer (some ⟨b, 0, none⟩)) #[.int .i64 0, .int .i64 0, .int .i64 0] hF hM (by kernel_rfl) (fun _ => by kernel_rfl) fun bb3 a w hF hM => ?_)
  refine wl (sStore (i := 4) (off := 0) (cs' := #[.int .i64 0, .int .i64 (cb * 1048576), .int .i64 (pb * 1048576)]) hF hM (by kernel_rfl) rfl rfl (by kernel_rfl) (by kernel_rfl) rfl (by kernel_rfl) fun w hM => ?_)
  refine sB 1 [(9, .int .i64 0)] hF (by kernel_rfl) fun a hF => ?_
  refine wpList_nil ?_
  refine hK2 _ _ ?_
  refine wp_seq_k fun K3 hK3 => ?_
  refine wp_seq_k fun K4 hK4 => ?_
  refine wp_region_lit ?_
  refine sB 1 [(22, .int .i64 0)] hF (by kernel_rfl) fun a hF => ?_
  refine wl (eP 23 (v0 := .bool (!decide (0 = 0))) (v := .bool false) hF (by kernel_rfl) (fun _ => by kernel_rfl) (nT (by omega)) fun a hF => ?_)
  refine wpList_nil ?_
  refine hK4 _ _ ?_
  refine cF hF (by kernel_rfl) (by kernel_rfl) ?_
  refine wp_skip ?_
  refine hK3 _ _ ?_
  refine wp_seq_k fun K5 hK5 => ?_
  refine wp_seq_k fun K6 hK6 => ?_
  refine wp_region_lit ?_
  refine sB 1 [(25, .slice A l.length c)] hF (by kernel_rfl) fun a hF => ?_
  refine wl (eM 26 (v := .int .i64 (trE l)) hF hM (by kernel_rfl) (yld_call (f := 32) (args := #[.slice A l.length c]) hF (by kernel_rfl) (fun _ => by kernel_rfl) (fun w hM => checkTrace_w A l c w (hM.ok 1 _ rfl))) fun a w hF hM => ?_)
  refine sB 1 [(10, .int .i64 (trE l))] hF (by kernel_rfl) fun a hF => ?_
  refine wpList_nil ?_
  refine hK6 _ _ ?_
  refine wp_seq_k fun K7 hK7 => ?_
  refine wp_region_lit ?_
  refine sB 1 [(27, .int .i64 (trE l))] hF (by kernel_rfl) fun a hF => ?_
  refine wl (eP 28 (v0 := .bool (!decide (trE l = 0))) (v := .bool false) hF (by kernel_rfl) (fun _ => by kernel_rfl) (nT e2) fun a hF => ?_)
  refine wpList_nil ?_
  refine hK7 _ _ ?_
  refine cF hF (by kernel_rfl) (by kernel_rfl) ?_
  refine wp_skip ?_
  refine hK5 _ _ ?_
  refine wp_seq_k fun K8 hK8 => ?_
  refine wp_region_lit ?_
  refine sB 1 [(30, .pointer (some ⟨bb3, 1, none⟩))] hF (by kernel_rfl) fun a hF => ?_
  refine wl (eL 31 4 1 (v := .int .i64 (cb * 1048576)) hF hM (by kernel_rfl) rfl rfl (by kernel_rfl) (by kernel_rfl) fun a w hF hM => ?_)
  refine sB 1 [(32, .pointer (some ⟨bb3, 2, none⟩))] hF (by kernel_rfl) fun a hF => ?_
  refine wl (eL 33 4 2 (v := .int .i64 (pb * 1048576)) hF hM (by kernel_rfl) rfl rfl (by kernel_rfl) (by kernel_rfl) fun a w hF hM => ?_)
  refine sB 2 [(34, .agg #[.int .i64 (cb * 1048576), .int .i64 (pb * 1048576)]), (35, .pointer (some ⟨bb3, 0, none⟩))] hF (by kernel_rfl) fun a hF => ?_
  refine wl (eL 36 4 0 (v := .int .i64 0) hF hM (by kernel_rfl) rfl rfl (by kernel_rfl) (by kernel_rfl) fun a w hF hM => ?_)
  refine wl (eL 37 2 0 (v := .agg #[.int .i64 cb, .int .i64 cr]) hF hM (by kernel_rfl) rfl rfl (by kernel_rfl) (by kernel_rfl) fun a w hF hM => ?_)
  refine wl (eL 38 3 0 (v := .agg #[.int .i64 pb, .int .i64 ps]) hF hM (by kernel_rfl) rfl rfl (by kernel_rfl) (by kernel_rfl) fun a w hF hM => ?_)
  refine sB 1 [(39, .agg #[.int .i64 (cb * 1048576), .int .i64 (pb * 1048576), .int .i64 0, .int .i64 cb, .int .i64 cr, .int .i64 pb, .int .i64 ps])] hF (by kernel_rfl) fun a hF => ?_
  refine wl (eN 11 5 (t := 73) (fun b => .pointer (some ⟨b, 0, none⟩)) #[.int .i64 0, .int .i64 0, .int .i64 0, .int .i64 0, .int .i64 0, .int .i64 0, .int .i64 0] hF hM (by kernel_rfl) (fun _ => by kernel_rfl) fun bb4 a w hF hM => ?_)
  refine wl (sStore (i := 5) (off := 0) (cs' := #[.int .i64 (cb * 1048576), .int .i64 (pb * 1048576), .int .i64 0, .int .i64 cb, .int .i64 cr, .int .i64 pb, .int .i64 ps]) hF hM (by kernel_rfl) rfl rfl (by kernel_rfl) (by kernel_rfl) rfl (by kernel_rfl) fun w hM => ?_)
  refine wpList_nil ?_
  refine hK8 _ _ ?_
  refine wp_seq_k fun K9 hK9 => ?_
  refine wp_region_lit ?_
  refine sB 2 [(40, .func (.func 31) #[.pointer (some ⟨bb4, 0, none⟩)] #[]), (12, .func (.func 31) #[.pointer (some ⟨bb4, 0, none⟩)] #[])] hF (by kernel_rfl) fun a hF => ?_
  refine wpList_nil ?_
  refine hK9 _ _ ?_
  refine wp_seq_k fun K10 hK10 => ?_
  refine wp_region_lit ?_
  refine sB 2 [(41, .slice A l.length c), (42, .int .i64 (l.length : Int))] hF (by kernel_rfl) fun a hF => ?_
  refine wl (sMake 43 6 l.length (e := 3) (size := 1) (bytes := 8) (z := .int .i64 0) ((List.replicate l.length 0).map (Value.int .i64)) hF hM (by kernel_rfl) rfl (by kernel_rfl) (by kernel_rfl) (by kernel_rfl) (by rw [Nat.mul_one, List.map_replicate]; exact toList_madeCells_one _ _) (by omega) (by unfold maxLen; omega) fun bb5 a w hF hM => ?_)
  refine sB 1 [(13, .slice (some ⟨bb5, 0, none⟩) l.length l.length)] hF (by kernel_rfl) fun a hF => ?_
  refine wpList_nil ?_
  refine hK10 _ _ ?_
  refine wp_seq_k fun K11 hK11 => ?_
  refine wp_seq_k fun K12 hK12 => ?_
  refine wp_region_lit ?_
  refine sB 3 [(44, .slice A l.length c), (45, .int .i64 (l.length : Int)), (46, .int .i64 0)] hF (by kernel_rfl) fun a hF => ?_
  refine wpList_nil ?_
  refine hK12 _ _ ?_
  refine wp_block ?_
  refine wp_loop_k (G := Nat × Int × Int × Int × List Int) (fun gg a w => Fr 62 [(46, some (.int .i64 (gg.1 : Int))), (6, some (.slice none 0 0)), (7, some (.int .i64 0)), (12, some (.func (.func 31) #[.pointer (some ⟨bb4, 0, none⟩)] #[])), (13, some (.slice (some ⟨bb5, 0, none⟩) l.length l.length)), (44, some (.slice A l.length c)), (45, some (.int .i64 (l.length : Int)))] a ∧ Mem w0.heap.size w0 [(1, some (.ro A (flat2 l))), (5, some (.row bb4 73 #[.int .i64 gg.2.2.1, .int .i64 gg.2.2.2.1, .int .i64 gg.2.1, .int .i64 cb, .int .i64 cr, .int .i64 pb, .int .i64 ps])), (6, some (.own (.slice (some ⟨bb5, 0, none⟩) l.length l.length) 3 1 l.length ((gg.2.2.2.2 ++ List.replicate (l.length - gg.1) 0).map (Value.int .i64))))] w ∧ ((gg.1 : Int) ≤ (l.length : Int)) ∧ (mrun cb cr pb ps 0 (cb * 1048576) (pb * 1048576) l = gg.2.2.2.2 ++ mrun cb cr pb ps gg.2.1 gg.2.2.1 gg.2.2.2.1 (l.drop gg.1)) ∧ (gg.2.2.2.2.length = gg.1) ∧ (trOk gg.2.1 (l.drop gg.1) = true) ∧ (0 ≤ gg.2.1) ∧ (gg.2.1 ≤ 1099511627776) ∧ (0 ≤ gg.2.2.1) ∧ (gg.2.2.1 ≤ cb * 1048576) ∧ (0 ≤ gg.2.2.2.1) ∧ (gg.2.2.2.1 ≤ pb * 1048576)) (fun gg => l.length - gg.1) (0, 0, cb * 1048576, pb * 1048576, []) ?_ ?_
  · refine ⟨((((((((Fr.nil hF).c hF (i := 45) rfl rfl).c hF (i := 44) rfl rfl).c hF (i := 13) rfl rfl).c hF (i := 12) rfl rfl).c hF (i := 7) rfl rfl).c hF (i := 6) rfl rfl).c hF (i := 46) rfl (vi (show (0 : Int) = (0 : Int) from by omega))), (hM.sub (((Sub.nil.c (k := 6) rfl (congrArg (fun x => Ent.own _ _ _ _ (List.map (Value.int .i64) x)) (by simp))).c (k := 5) rfl rfl).c (k := 1) rfl rfl)), (show (0 : Int) ≤ (l.length : Int) from by omega), (show mrun cb cr pb ps 0 (cb * 1048576) (pb * 1048576) l = ([]) ++ mrun cb cr pb ps 0 (cb * 1048576) (pb * 1048576) (l.drop 0) from by simp), (show ([]).length = 0 from by rfl), (show trOk 0 (l.drop 0) = true from by simpa using (trE_ok e2).2), (show 0 ≤ 0 from by omega), (show 0 ≤ 1099511627776 from by omega), (show 0 ≤ (cb * 1048576) from by omega), (show (cb * 1048576) ≤ cb * 1048576 from by omega), (show 0 ≤ (pb * 1048576) from by omega), (show (pb * 1048576) ≤ pb * 1048576 from by omega)⟩
  · intro gg a w hI
    intro K13 hK13
    obtain ⟨k, la, co, pe, cs⟩ := gg
    try dsimp only at hI hK13
    obtain ⟨hF, hM, hz3, hz4, hz5, hz6, hz7, hz8, hz9, hz10, hz11, hz12⟩ := hI
    refine wp_seq_k fun K14 hK14 => ?_
    refine wp_region_lit ?_
    refine sB 1 [(47, .bool (decide ((k : Int) < (l.length : Int))))] hF (by kernel_rfl) fun a hF => ?_
    refine wpList_nil ?_
    refine hK14 _ _ ?_
    refine wp_seq_k fun K15 hK15 => ?_
    by_cases hz13 : (k : Int) < (l.length : Int)
    · skip
      replace hF := hF.c hF (i := 47) (v := .bool true) rfl (bT hz13)
      refine cT hF (by kernel_rfl) (by kernel_rfl) ?_
      refine wp_skip ?_
      refine hK15 _ _ ?_
      refine wp_seq_k fun K16 hK16 => ?_
      refine wp_block ?_
      refine wp_seq_k fun K17 hK17 => ?_
      have hq := tr_here (l := l) (k := k) (la := la) (by omega) (by assumption)
      refine wp_region_lit ?_
      refine sB 1 [(48, .int .i64 (k : Int))] hF (by kernel_rfl) fun a hF => ?_
      refine wl (eM 49 (v := .pointer (some (ea A (k * 2)))) hF hM (by kernel_rfl) (yld_ix (kd := .i64) (e := 33) (len := l.length) (cap := c) (i := (k : Int)) (size := 2) (A := A) hF rfl (by kernel_rfl) (by kernel_rfl) (by kernel_rfl) (by kernel_rfl) (by kernel_rfl) (roK 1 rfl) (by omega) (by omega) (by rw [flat2_length]; omega)) fun a w hF hM => ?_)
      refine wl (eM 50 (v := .agg #[.int .i64 (pr l k).1, .int .i64 (pr l k).2]) hF hM (by kernel_rfl) (yld_roM (A := A) (j := k * 2) (us := [.int .i64 (pr l k).1, .int .i64 (pr l k).2]) hF rfl (by kernel_rfl) (by kernel_rfl) (roK 1 rfl) (by kernel_rfl) rfl (pr_both (k := k) (by omega) (by omega))) fun a w hF hM => ?_)
      refine wl (eN 15 7 (t := 33) (fun b => .pointer (some ⟨b, 0, none⟩)) #[.int .i64 0, .int .i64 0] hF hM (by kernel_rfl) (fun _ => by kernel_rfl) fun bb6 a w hF hM => ?_)
      refine sB 1 [(14, .int .i64 (k : Int))] hF (by kernel_rfl) fun a hF => ?_
      refine wl (sStore (i := 7) (off := 0) (cs' := #[.int .i64 (pr l k).1, .int .i64 (pr l k).2]) hF hM (by kernel_rfl) rfl rfl (by kernel_rfl) (by kernel_rfl) rfl (by kernel_rfl) fun w hM => ?_)
      refine wpList_nil ?_
      refine hK17 _ _ ?_
      refine wp_region_lit ?_
      refine sB 4 [(51, .slice (some ⟨bb5, 0, none⟩) l.length l.length), (52, .int .i64 (k : Int)), (53, .func (.func 31) #[.pointer (some ⟨bb4, 0, none⟩)] #[]), (54, .pointer (some ⟨bb6, 0, none⟩))] hF (by kernel_rfl) fun a hF => ?_
      refine wl (eL 55 7 0 (v := .int .i64 (pr l k).1) hF hM (by kernel_rfl) rfl rfl (by kernel_rfl) (by kernel_rfl) fun a w hF hM => ?_)
      refine sB 1 [(56, .pointer (some ⟨bb6, 1, none⟩))] hF (by kernel_rfl) fun a hF => ?_
      refine wl (eL 57 7 1 (v := .int .i64 (pr l k).2) hF hM (by kernel_rfl) rfl rfl (by kernel_rfl) (by kernel_rfl) fun a w hF hM => ?_)
      refine wl (sC (f := 31) (args := #[.pointer (some ⟨bb4, 0, none⟩), .int .i64 (pr l k).1, .int .i64 (pr l k).2]) hF (by kernel_rfl) rfl (by decide) (by kernel_rfl) (fun _ => by kernel_rfl) ?_)
      refine enterK 82 Try.func31 rfl rfl rfl ?_
      intro a1 hF1 QR18 hR18 hNR18
      refine wp_seq_k fun K19 hK19 => ?_
      refine wp_region_lit ?_
      refine sB 1 [(6, .int .i64 0)] hF1 (by kernel_rfl) fun a1 hF1 => ?_
      refine wpList_nil ?_
      refine hK19 _ _ ?_
      refine wp_seq_k fun K20 hK20 => ?_
      refine rT 22 (by kernel_rfl) (by kernel_rfl) hM.drew ?_
      refine eQ 9 (v0 := .pointer (some ⟨bb4, 0, none⟩)) (v := .pointer (some ⟨bb4, 0, none⟩)) hF1 (by kernel_rfl) (fun _ => by kernel_rfl) rfl fun a1 hF1 => ?_
      refine eQ 10 (v0 := .pointer (some ⟨bb4, 0, none⟩)) (v := .pointer (some ⟨bb4, 0, none⟩)) hF1 (by kernel_rfl) (fun _ => by kernel_rfl) rfl fun a1 hF1 => ?_
      refine eQ 11 (v0 := .pointer (some ⟨bb4, 0, none⟩)) (v := .pointer (some ⟨bb4, 0, none⟩)) hF1 (by kernel_rfl) (fun _ => by kernel_rfl) rfl fun a1 hF1 => ?_
      refine eQ 12 (v0 := .pointer (some ⟨bb4, 0, none⟩)) (v := .pointer (some ⟨bb4, 0, none⟩)) hF1 (by kernel_rfl) (fun _ => by kernel_rfl) rfl fun a1 hF1 => ?_
      refine eQL 13 5 0 (v := .agg #[.int .i64 co, .int .i64 pe]) hF1 (by kernel_rfl) rfl rfl (by kernel_rfl) (by kernel_rfl) fun a1 hF1 => ?_
      refine eQ 14 (v0 := .pointer (some ⟨bb4, 0, none⟩)) (v := .pointer (some ⟨bb4, 0, none⟩)) hF1 (by kernel_rfl) (fun _ => by kernel_rfl) rfl fun a1 hF1 => ?_
      refine eQ 15 (v0 := .pointer (some ⟨bb4, 0, none⟩)) (v := .pointer (some ⟨bb4, 0, none⟩)) hF1 (by kernel_rfl) (fun _ => by kernel_rfl) rfl fun a1 hF1 => ?_
      refine eQ 16 (v0 := .pointer (some ⟨bb4, 3, none⟩)) (v := .pointer (some ⟨bb4, 3, none⟩)) hF1 (by kernel_rfl) (fun _ => by kernel_rfl) rfl fun a1 hF1 => ?_
      refine eQL 17 5 3 (v := .agg #[.int .i64 cb, .int .i64 cr]) hF1 (by kernel_rfl) rfl rfl (by kernel_rfl) (by kernel_rfl) fun a1 hF1 => ?_
      refine eQ 18 (v0 := .pointer (some ⟨bb4, 0, none⟩)) (v := .pointer (some ⟨bb4, 0, none⟩)) hF1 (by kernel_rfl) (fun _ => by kernel_rfl) rfl fun a1 hF1 => ?_
      refine eQ 19 (v0 := .pointer (some ⟨bb4, 0, none⟩)) (v := .pointer (some ⟨bb4, 0, none⟩)) hF1 (by kernel_rfl) (fun _ => by kernel_rfl) rfl fun a1 hF1 => ?_
      refine eQ 20 (v0 := .pointer (some ⟨bb4, 5, none⟩)) (v := .pointer (some ⟨bb4, 5, none⟩)) hF1 (by kernel_rfl) (fun _ => by kernel_rfl) rfl fun a1 hF1 => ?_
      refine eQL 21 5 5 (v := .agg #[.int .i64 pb, .int .i64 ps]) hF1 (by kernel_rfl) rfl rfl (by kernel_rfl) (by kernel_rfl) fun a1 hF1 => ?_
      refine eQ 22 (v0 := .int .i64 (pr l k).1) (v := .int .i64 (pr l k).1) hF1 (by kernel_rfl) (fun _ => by kernel_rfl) rfl fun a1 hF1 => ?_
      refine eQ 23 (v0 := .pointer (some ⟨bb4, 0, none⟩)) (v := .pointer (some ⟨bb4, 0, none⟩)) hF1 (by kernel_rfl) (fun _ => by kernel_rfl) rfl fun a1 hF1 => ?_
      refine eQ 24 (v0 := .pointer (some ⟨bb4, 0, none⟩)) (v := .pointer (some ⟨bb4, 0, none⟩)) hF1 (by kernel_rfl) (fun _ => by kernel_rfl) rfl fun a1 hF1 => ?_
      refine eQ 25 (v0 := .pointer (some ⟨bb4, 2, none⟩)) (v := .pointer (some ⟨bb4, 2, none⟩)) hF1 (by kernel_rfl) (fun _ => by kernel_rfl) rfl fun a1 hF1 => ?_
      refine eQL 26 5 2 (v := .int .i64 la) hF1 (by kernel_rfl) rfl rfl (by kernel_rfl) (by kernel_rfl) fun a1 hF1 => ?_
      refine eQ 27 (v0 := .int .i64 (IntKind.i64.wrap ((pr l k).1 - la))) (v := .int .i64 ((pr l k).1 - la)) hF1 (by kernel_rfl) (fun _ => by kernel_rfl) (wi (by omega)) fun a1 hF1 => ?_
      refine eQ2 28 (v := .agg #[.int .i64 (up cb cr co ((pr l k).1 - la)), .int .i64 (up pb ps pe ((pr l k).1 - la))]) hF1 (by kernel_rfl) (yld_call (f := 38) (args := #[.agg #[.int .i64 co, .int .i64 pe], .agg #[.int .i64 cb, .int .i64 cr], .agg #[.int .i64 pb, .int .i64 ps], .int .i64 ((pr l k).1 - la)]) hF1 (by kernel_rfl) (fun _ => by kernel_rfl) (fun w hM => grown_w co pe cb cr pb ps ((pr l k).1 - la) w (by omega))) fun a1 hF1 => ?_
      have := up_bd (b := cb) (r := cr) (n := co) (t := (pr l k).1 - la) (by omega) (by omega) (by omega) (by omega)
      have := up_bd (b := pb) (r := ps) (n := pe) (t := (pr l k).1 - la) (by omega) (by omega) (by omega) (by omega)
      refine eQ 29 (v0 := .pointer (some ⟨bb4, 0, none⟩)) (v := .pointer (some ⟨bb4, 0, none⟩)) hF1 (by kernel_rfl) (fun _ => by kernel_rfl) rfl fun a1 hF1 => ?_
      refine eQ 30 (v0 := .pointer (some ⟨bb4, 0, none⟩)) (v := .pointer (some ⟨bb4, 0, none⟩)) hF1 (by kernel_rfl) (fun _ => by kernel_rfl) rfl fun a1 hF1 => ?_
      refine wpQuiet_nil ?_
      intro w hM
      refine wl (sStore (i := 5) (off := 0) (cs' := #[.int .i64 (up cb cr co ((pr l k).1 - la)), .int .i64 (up pb ps pe ((pr l k).1 - la)), .int .i64 la, .int .i64 cb, .int .i64 cr, .int .i64 pb, .int .i64 ps]) hF1 hM (by kernel_rfl) rfl rfl (by kernel_rfl) (by kernel_rfl) rfl (by kernel_rfl) fun w hM => ?_)
      refine wpList_nil ?_
      refine hK20 _ _ ?_
      refine wp_seq_k fun K21 hK21 => ?_
      refine wp_region_lit ?_
      refine sB 4 [(31, .pointer (some ⟨bb4, 0, none⟩)), (32, .int .i64 (pr l k).1), (33, .pointer (some ⟨bb4, 0, none⟩)), (34, .pointer (some ⟨bb4, 2, none⟩))] hF1 (by kernel_rfl) fun a1 hF1 => ?_
      refine wl (sStore (i := 5) (off := 2) (cs' := #[.int .i64 (up cb cr co ((pr l k).1 - la)), .int .i64 (up pb ps pe ((pr l k).1 - la)), .int .i64 (pr l k).1, .int .i64 cb, .int .i64 cr, .int .i64 pb, .int .i64 ps]) hF1 hM (by kernel_rfl) rfl rfl (by kernel_rfl) (by kernel_rfl) rfl (by kernel_rfl) fun w hM => ?_)
      refine wpList_nil ?_
      refine hK21 _ _ ?_
      refine wp_seq_k fun K22 hK22 => ?_
      refine wp_region_lit ?_
      refine sB 1 [(35, .int .i64 (pr l k).2)] hF1 (by kernel_rfl) fun a1 hF1 => ?_
      refine wl (eP 36 (v0 := .int .i64 (IntKind.i64.wrap ((pr l k).2 * 1048576))) (v := .int .i64 ((pr l k).2 * 1048576)) hF1 (by kernel_rfl) (fun _ => by kernel_rfl) (wi (by omega)) fun a1 hF1 => ?_)
      refine sB 1 [(7, .int .i64 ((pr l k).2 * 1048576))] hF1 (by kernel_rfl) fun a1 hF1 => ?_
      refine wpList_nil ?_
      refine hK22 _ _ ?_
      refine wp_seq_k fun K23 hK23 => ?_
      refine wp_region_lit ?_
      refine sB 1 [(8, .int .i64 0)] hF1 (by kernel_rfl) fun a1 hF1 => ?_
      refine wpList_nil ?_
      refine hK23 _ _ ?_
      refine wp_seq_k fun K24 hK24 => ?_
      refine wp_block ?_
      refine wp_seq_k fun K25 hK25 => ?_
      refine wp_block ?_
      refine wp_seq_k fun K26 hK26 => ?_
      refine wp_block ?_
      refine wp_seq_k fun K27 hK27 => ?_
      refine wp_seq_k fun K28 hK28 => ?_
      refine wp_seq_k fun K29 hK29 => ?_
      refine wp_region_lit ?_
      refine sB 4 [(38, .pointer (some ⟨bb4, 0, none⟩)), (39, .pointer (some ⟨bb4, 0, none⟩)), (40, .pointer (some ⟨bb4, 0, none⟩)), (41, .pointer (some ⟨bb4, 1, none⟩))] hF1 (by kernel_rfl) fun a1 hF1 => ?_
      refine wl (eL 42 5 1 (v := .int .i64 (up pb ps pe ((pr l k).1 - la))) hF1 hM (by kernel_rfl) rfl rfl (by kernel_rfl) (by kernel_rfl) fun a1 w hF1 hM => ?_)
      refine sB 3 [(43, .int .i64 ((pr l k).2 * 1048576)), (44, .bool (decide (up pb ps pe ((pr l k).1 - la) < (pr l k).2 * 1048576))), (37, .bool (decide (up pb ps pe ((pr l k).1 - la) < (pr l k).2 * 1048576)))] hF1 (by kernel_rfl) fun a1 hF1 => ?_
      refine wpList_nil ?_
      refine hK29 _ _ ?_
      by_cases hz14 : up pb ps pe ((pr l k).1 - la) < (pr l k).2 * 1048576
      · skip
        replace hF1 := hF1.c hF1 (i := 37) (v := .bool true) rfl (bT hz14)
        replace hF1 := hF1.c hF1 (i := 44) (v := .bool true) rfl (bT hz14)
        refine cT hF1 (by kernel_rfl) (by kernel_rfl) ?_
        refine wp_exit ?_
        refine hK26 _ _ ?_
        refine wp_region_lit ?_
        refine sB 1 [(53, .int .i64 0)] hF1 (by kernel_rfl) fun a1 hF1 => ?_
        refine wl (eP 54 (v0 := .int .i64 (IntKind.i64.wrap (0 + 1))) (v := .int .i64 1) hF1 (by kernel_rfl) (fun _ => by kernel_rfl) (vi (by decide)) fun a1 hF1 => ?_)
        refine sB 1 [(8, .int .i64 1)] hF1 (by kernel_rfl) fun a1 hF1 => ?_
        refine wpList_nil ?_
        refine hK25 _ _ ?_
        refine wp_seq_k fun K30 hK30 => ?_
        refine wp_region_lit ?_
        refine sB 1 [(55, .int .i64 1)] hF1 (by kernel_rfl) fun a1 hF1 => ?_
        refine wl (eP 56 (v0 := .int .i64 (IntKind.i64.wrap (1 + 1))) (v := .int .i64 2) hF1 (by kernel_rfl) (fun _ => by kernel_rfl) (vi (by decide)) fun a1 hF1 => ?_)
        refine sB 1 [(8, .int .i64 2)] hF1 (by kernel_rfl) fun a1 hF1 => ?_
        refine wpList_nil ?_
        refine hK30 _ _ ?_
        refine wp_exit ?_
        refine hK24 _ _ ?_
        refine wp_seq_k fun K31 hK31 => ?_
        refine wp_seq_k fun K32 hK32 => ?_
        refine wp_region_lit ?_
        refine sB 1 [(57, .int .i64 2)] hF1 (by kernel_rfl) fun a1 hF1 => ?_
        refine wl (eP 58 (v0 := .bool (!decide (2 = 2))) (v := .bool false) hF1 (by kernel_rfl) (fun _ => by kernel_rfl) (nT (by omega)) fun a1 hF1 => ?_)
        refine wpList_nil ?_
        refine hK32 _ _ ?_
        refine cF hF1 (by kernel_rfl) (by kernel_rfl) ?_
        refine wp_skip ?_
        refine hK31 _ _ ?_
        refine wp_seq_k fun K33 hK33 => ?_
        refine wp_seq_k fun K34 hK34 => ?_
        refine wp_region_lit ?_
        refine sB 1 [(69, .int .i64 2)] hF1 (by kernel_rfl) fun a1 hF1 => ?_
        refine wl (eP 70 (v0 := .bool (decide (2 = 0))) (v := .bool false) hF1 (by kernel_rfl) (fun _ => by kernel_rfl) (bF (by omega)) fun a1 hF1 => ?_)
        refine wpList_nil ?_
        refine hK34 _ _ ?_
        refine cF hF1 (by kernel_rfl) (by kernel_rfl) ?_
        refine wp_skip ?_
        refine hK33 _ _ ?_
        refine wp_seq_k fun K35 hK35 => ?_
        refine wp_region_lit ?_
        refine sB 2 [(81, .int .i64 2), (6, .int .i64 2)] hF1 (by kernel_rfl) fun a1 hF1 => ?_
        refine wpList_nil ?_
        refine hK35 _ _ ?_
        refine wp_ret ?_
        refine hR18 _ _ ?_
        refine ret_of hF1 hM (.tmp rfl (.nil)) ⟨_, rfl, ?_⟩
        intro a hF
        refine wl (eM 59 (v := .pointer (some (ea (some ⟨bb5, 0, none⟩) (k)))) hF hM (by kernel_rfl) (yld_ix (kd := .i64) (e := 3) (len := l.length) (cap := l.length) (i := (k : Int)) (size := 1) (A := (some ⟨bb5, 0, none⟩)) hF rfl (by kernel_rfl) (by kernel_rfl) (by kernel_rfl) (by kernel_rfl) (by kernel_rfl) (roO 6 rfl) (by omega) (by omega) (by (try simp only [List.length_map, List.length_append, List.length_replicate, List.length_set, List.length_cons, List.length_nil, flat2_length, List.length_take]); omega)) fun a w hF hM => ?_)
        refine wl (sStoreO 6 (j := k) (A := (some ⟨bb5, 0, none⟩)) (((cs ++ List.replicate (l.length - k) 0).set k 2).map (Value.int .i64)) hF hM (by kernel_rfl) rfl rfl (by kernel_rfl) (by kernel_rfl) rfl (by kernel_rfl) rfl rfl (by (try simp only [List.length_map, List.length_append, List.length_replicate, List.length_set, List.length_cons, List.length_nil, flat2_length, List.length_take]); omega) (map_set' _ _ _ _) fun w hM => ?_)
        refine wpList_nil ?_
        refine hK16 _ _ ?_
        refine wp_region_lit ?_
        refine wl (eP 60 (v0 := .int .i64 (IntKind.i64.wrap ((k : Int) + 1))) (v := .int .i64 ((k : Int) + 1)) hF (by kernel_rfl) (fun _ => by kernel_rfl) (wi (by omega)) fun a hF => ?_)
        refine sB 1 [(46, .int .i64 ((k : Int) + 1))] hF (by kernel_rfl) fun a hF => ?_
        refine wpList_nil ?_
        refine hK13 _ _ ⟨(k + 1, (pr l k).1, up cb cr co ((pr l k).1 - la), up pb ps pe ((pr l k).1 - la), cs ++ [2]), ⟨((((((((Fr.nil hF).c hF (i := 45) rfl rfl).c hF (i := 44) rfl rfl).c hF (i := 13) rfl rfl).c hF (i := 12) rfl rfl).c hF (i := 7) rfl rfl).c hF (i := 6) rfl rfl).c hF (i := 46) rfl (vi (show ((k : Int) + 1 : Int) = ((k + 1) : Int) from by omega))), (hM.sub (((Sub.nil.c (k := 6) rfl (congrArg (fun x => Ent.own _ _ _ _ (List.map (Value.int .i64) x)) (set_fill _ _ _ (by omega) (by omega)))).c (k := 5) rfl rfl).c (k := 1) rfl rfl)), (show ((k + 1) : Int) ≤ (l.length : Int) from by omega), (show mrun cb cr pb ps 0 (cb * 1048576) (pb * 1048576) l = (cs ++ [2]) ++ mrun cb cr pb ps (pr l k).1 (up cb cr co ((pr l k).1 - la)) (up pb ps pe ((pr l k).1 - la)) (l.drop (k + 1)) from by exact mrun_step (drop_pr (by omega)) (by assumption) (by unfold colr; omega) (by simp) (by simp)), (show (cs ++ [2]).length = (k + 1) from by simp; omega), (show trOk (pr l k).1 (l.drop (k + 1)) = true from by exact hq.2.2.2.2), (show 0 ≤ (pr l k).1 from by omega), (show (pr l k).1 ≤ 1099511627776 from by omega), (show 0 ≤ (up cb cr co ((pr l k).1 - la)) from by omega), (show (up cb cr co ((pr l k).1 - la)) ≤ cb * 1048576 from by omega), (show 0 ≤ (up pb ps pe ((pr l k).1 - la)) from by omega), (show (up pb ps pe ((pr l k).1 - la)) ≤ pb * 1048576 from by omega)⟩, (show l.length - (k + 1) < l.length - k from by omega)⟩
      · skip
        replace hF1 := hF1.c hF1 (i := 37) (v := .bool false) rfl (bF hz14)
        replace hF1 := hF1.c hF1 (i := 44) (v := .bool false) rfl (bF hz14)
        refine cF hF1 (by kernel_rfl) (by kernel_rfl) ?_
        refine wp_skip ?_
        refine hK28 _ _ ?_
        refine wp_seq_k fun K36 hK36 => ?_
        refine wp_region_lit ?_
        refine sB 4 [(46, .pointer (some ⟨bb4, 0, none⟩)), (47, .pointer (some ⟨bb4, 0, none⟩)), (48, .pointer (some ⟨bb4, 0, none⟩)), (49, .pointer (some ⟨bb4, 0, none⟩))] hF1 (by kernel_rfl) fun a1 hF1 => ?_
        refine wl (eL 50 5 0 (v := .int .i64 (up cb cr co ((pr l k).1 - la))) hF1 hM (by kernel_rfl) rfl rfl (by kernel_rfl) (by kernel_rfl) fun a1 w hF1 hM => ?_)
        refine sB 3 [(51, .int .i64 ((pr l k).2 * 1048576)), (52, .bool (decide (up cb cr co ((pr l k).1 - la) < (pr l k).2 * 1048576))), (45, .bool (decide (up cb cr co ((pr l k).1 - la) < (pr l k).2 * 1048576)))] hF1 (by kernel_rfl) fun a1 hF1 => ?_
        refine wpList_nil ?_
        refine hK36 _ _ ?_
        by_cases hz15 : up cb cr co ((pr l k).1 - la) < (pr l k).2 * 1048576
        · skip
          replace hF1 := hF1.c hF1 (i := 45) (v := .bool true) rfl (bT hz15)
          replace hF1 := hF1.c hF1 (i := 52) (v := .bool true) rfl (bT hz15)
          refine cT hF1 (by kernel_rfl) (by kernel_rfl) ?_
          refine wp_exit ?_
          refine hK25 _ _ ?_
          refine wp_seq_k fun K37 hK37 => ?_
          refine wp_region_lit ?_
          refine sB 1 [(55, .int .i64 0)] hF1 (by kernel_rfl) fun a1 hF1 => ?_
          refine wl (eP 56 (v0 := .int .i64 (IntKind.i64.wrap (0 + 1))) (v := .int .i64 1) hF1 (by kernel_rfl) (fun _ => by kernel_rfl) (vi (by decide)) fun a1 hF1 => ?_)
          refine sB 1 [(8, .int .i64 1)] hF1 (by kernel_rfl) fun a1 hF1 => ?_
          refine wpList_nil ?_
          refine hK37 _ _ ?_
          refine wp_exit ?_
          refine hK24 _ _ ?_
          refine wp_seq_k fun K38 hK38 => ?_
          refine wp_seq_k fun K39 hK39 => ?_
          refine wp_region_lit ?_
          refine sB 1 [(57, .int .i64 1)] hF1 (by kernel_rfl) fun a1 hF1 => ?_
          refine wl (eP 58 (v0 := .bool (!decide (1 = 2))) (v := .bool true) hF1 (by kernel_rfl) (fun _ => by kernel_rfl) (nF (by omega)) fun a1 hF1 => ?_)
          refine wpList_nil ?_
          refine hK39 _ _ ?_
          refine cT hF1 (by kernel_rfl) (by kernel_rfl) ?_
          refine wp_region_lit ?_
          refine sB 4 [(59, .pointer (some ⟨bb4, 0, none⟩)), (60, .pointer (some ⟨bb4, 0, none⟩)), (61, .pointer (some ⟨bb4, 0, none⟩)), (62, .pointer (some ⟨bb4, 1, none⟩))] hF1 (by kernel_rfl) fun a1 hF1 => ?_
          refine wl (eL 63 5 1 (v := .int .i64 (up pb ps pe ((pr l k).1 - la))) hF1 hM (by kernel_rfl) rfl rfl (by kernel_rfl) (by kernel_rfl) fun a1 w hF1 hM => ?_)
          refine sB 1 [(64, .int .i64 ((pr l k).2 * 1048576))] hF1 (by kernel_rfl) fun a1 hF1 => ?_
          refine wl (eP 65 (v0 := .int .i64 (IntKind.i64.wrap (up pb ps pe ((pr l k).1 - la) - (pr l k).2 * 1048576))) (v := .int .i64 (up pb ps pe ((pr l k).1 - la) - (pr l k).2 * 1048576)) hF1 (by kernel_rfl) (fun _ => by kernel_rfl) (wi (by omega)) fun a1 hF1 => ?_)
          refine sB 3 [(66, .pointer (some ⟨bb4, 0, none⟩)), (67, .pointer (some ⟨bb4, 0, none⟩)), (68, .pointer (some ⟨bb4, 1, none⟩))] hF1 (by kernel_rfl) fun a1 hF1 => ?_
          refine wl (sStore (i := 5) (off := 1) (cs' := #[.int .i64 (up cb cr co ((pr l k).1 - la)), .int .i64 (up pb ps pe ((pr l k).1 - la) - (pr l k).2 * 1048576), .int .i64 (pr l k).1, .int .i64 cb, .int .i64 cr, .int .i64 pb, .int .i64 ps]) hF1 hM (by kernel_rfl) rfl rfl (by kernel_rfl) (by kernel_rfl) rfl (by kernel_rfl) fun w hM => ?_)
          refine wpList_nil ?_
          refine hK38 _ _ ?_
          refine wp_seq_k fun K40 hK40 => ?_
          refine wp_seq_k fun K41 hK41 => ?_
          refine wp_region_lit ?_
          refine sB 1 [(69, .int .i64 1)] hF1 (by kernel_rfl) fun a1 hF1 => ?_
          refine wl (eP 70 (v0 := .bool (decide (1 = 0))) (v := .bool false) hF1 (by kernel_rfl) (fun _ => by kernel_rfl) (bF (by omega)) fun a1 hF1 => ?_)
          refine wpList_nil ?_
          refine hK41 _ _ ?_
          refine cF hF1 (by kernel_rfl) (by kernel_rfl) ?_
          refine wp_skip ?_
          refine hK40 _ _ ?_
          refine wp_seq_k fun K42 hK42 => ?_
          refine wp_region_lit ?_
          refine sB 2 [(81, .int .i64 1), (6, .int .i64 1)] hF1 (by kernel_rfl) fun a1 hF1 => ?_
          refine wpList_nil ?_
          refine hK42 _ _ ?_
          refine wp_ret ?_
          refine hR18 _ _ ?_
          refine ret_of hF1 hM (.tmp rfl (.nil)) ⟨_, rfl, ?_⟩
          intro a hF
          refine wl (eM 59 (v := .pointer (some (ea (some ⟨bb5, 0, none⟩) (k)))) hF hM (by kernel_rfl) (yld_ix (kd := .i64) (e := 3) (len := l.length) (cap := l.length) (i := (k : Int)) (size := 1) (A := (some ⟨bb5, 0, none⟩)) hF rfl (by kernel_rfl) (by kernel_rfl) (by kernel_rfl) (by kernel_rfl) (by kernel_rfl) (roO 6 rfl) (by omega) (by omega) (by (try simp only [List.length_map, List.length_append, List.length_replicate, List.length_set, List.length_cons, List.length_nil, flat2_length, List.length_take]); omega)) fun a w hF hM => ?_)
          refine wl (sStoreO 6 (j := k) (A := (some ⟨bb5, 0, none⟩)) (((cs ++ List.replicate (l.length - k) 0).set k 1).map (Value.int .i64)) hF hM (by kernel_rfl) rfl rfl (by kernel_rfl) (by kernel_rfl) rfl (by kernel_rfl) rfl rfl (by (try simp only [List.length_map, List.length_append, List.length_replicate, List.length_set, List.length_cons, List.length_nil, flat2_length, List.length_take]); omega) (map_set' _ _ _ _) fun w hM => ?_)
          refine wpList_nil ?_
          refine hK16 _ _ ?_
          refine wp_region_lit ?_
          refine wl (eP 60 (v0 := .int .i64 (IntKind.i64.wrap ((k : Int) + 1))) (v := .int .i64 ((k : Int) + 1)) hF (by kernel_rfl) (fun _ => by kernel_rfl) (wi (by omega)) fun a hF => ?_)
          refine sB 1 [(46, .int .i64 ((k : Int) + 1))] hF (by kernel_rfl) fun a hF => ?_
          refine wpList_nil ?_
          refine hK13 _ _ ⟨(k + 1, (pr l k).1, up cb cr co ((pr l k).1 - la), up pb ps pe ((pr l k).1 - la) - (pr l k).2 * 1048576, cs ++ [1]), ⟨((((((((Fr.nil hF).c hF (i := 45) rfl rfl).c hF (i := 44) rfl rfl).c hF (i := 13) rfl rfl).c hF (i := 12) rfl rfl).c hF (i := 7) rfl rfl).c hF (i := 6) rfl rfl).c hF (i := 46) rfl (vi (show ((k : Int) + 1 : Int) = ((k + 1) : Int) from by omega))), (hM.sub (((Sub.nil.c (k := 6) rfl (congrArg (fun x => Ent.own _ _ _ _ (List.map (Value.int .i64) x)) (set_fill _ _ _ (by omega) (by omega)))).c (k := 5) rfl rfl).c (k := 1) rfl rfl)), (show ((k + 1) : Int) ≤ (l.length : Int) from by omega), (show mrun cb cr pb ps 0 (cb * 1048576) (pb * 1048576) l = (cs ++ [1]) ++ mrun cb cr pb ps (pr l k).1 (up cb cr co ((pr l k).1 - la)) (up pb ps pe ((pr l k).1 - la) - (pr l k).2 * 1048576) (l.drop (k + 1)) from by exact mrun_step (drop_pr (by omega)) (by assumption) (by unfold colr; omega) (by simp) (by simp)), (show (cs ++ [1]).length = (k + 1) from by simp; omega), (show trOk (pr l k).1 (l.drop (k + 1)) = true from by exact hq.2.2.2.2), (show 0 ≤ (pr l k).1 from by omega), (show (pr l k).1 ≤ 1099511627776 from by omega), (show 0 ≤ (up cb cr co ((pr l k).1 - la)) from by omega), (show (up cb cr co ((pr l k).1 - la)) ≤ cb * 1048576 from by omega), (show 0 ≤ (up pb ps pe ((pr l k).1 - la) - (pr l k).2 * 1048576) from by omega), (show (up pb ps pe ((pr l k).1 - la) - (pr l k).2 * 1048576) ≤ pb * 1048576 from by omega)⟩, (show l.length - (k + 1) < l.length - k from by omega)⟩
        · skip
          replace hF1 := hF1.c hF1 (i := 45) (v := .bool false) rfl (bF hz15)
          replace hF1 := hF1.c hF1 (i := 52) (v := .bool false) rfl (bF hz15)
          refine cF hF1 (by kernel_rfl) (by kernel_rfl) ?_
          refine wp_skip ?_
          refine hK27 _ _ ?_
          refine wp_exit ?_
          refine hK24 _ _ ?_
          refine wp_seq_k fun K43 hK43 => ?_
          refine wp_seq_k fun K44 hK44 => ?_
          refine wp_region_lit ?_
          refine sB 1 [(57, .int .i64 0)] hF1 (by kernel_rfl) fun a1 hF1 => ?_
          refine wl (eP 58 (v0 := .bool (!decide (0 = 2))) (v := .bool true) hF1 (by kernel_rfl) (fun _ => by kernel_rfl) (nF (by omega)) fun a1 hF1 => ?_)
          refine wpList_nil ?_
          refine hK44 _ _ ?_
          refine cT hF1 (by kernel_rfl) (by kernel_rfl) ?_
          refine wp_region_lit ?_
          refine sB 4 [(59, .pointer (some ⟨bb4, 0, none⟩)), (60, .pointer (some ⟨bb4, 0, none⟩)), (61, .pointer (some ⟨bb4, 0, none⟩)), (62, .pointer (some ⟨bb4, 1, none⟩))] hF1 (by kernel_rfl) fun a1 hF1 => ?_
          refine wl (eL 63 5 1 (v := .int .i64 (up pb ps pe ((pr l k).1 - la))) hF1 hM (by kernel_rfl) rfl rfl (by kernel_rfl) (by kernel_rfl) fun a1 w hF1 hM => ?_)
          refine sB 1 [(64, .int .i64 ((pr l k).2 * 1048576))] hF1 (by kernel_rfl) fun a1 hF1 => ?_
          refine wl (eP 65 (v0 := .int .i64 (IntKind.i64.wrap (up pb ps pe ((pr l k).1 - la) - (pr l k).2 * 1048576))) (v := .int .i64 (up pb ps pe ((pr l k).1 - la) - (pr l k).2 * 1048576)) hF1 (by kernel_rfl) (fun _ => by kernel_rfl) (wi (by omega)) fun a1 hF1 => ?_)
          refine sB 3 [(66, .pointer (some ⟨bb4, 0, none⟩)), (67, .pointer (some ⟨bb4, 0, none⟩)), (68, .pointer (some ⟨bb4, 1, none⟩))] hF1 (by kernel_rfl) fun a1 hF1 => ?_
          refine wl (sStore (i := 5) (off := 1) (cs' := #[.int .i64 (up cb cr co ((pr l k).1 - la)), .int .i64 (up pb ps pe ((pr l k).1 - la) - (pr l k).2 * 1048576), .int .i64 (pr l k).1, .int .i64 cb, .int .i64 cr, .int .i64 pb, .int .i64 ps]) hF1 hM (by kernel_rfl) rfl rfl (by kernel_rfl) (by kernel_rfl) rfl (by kernel_rfl) fun w hM => ?_)
          refine wpList_nil ?_
          refine hK43 _ _ ?_
          refine wp_seq_k fun K45 hK45 => ?_
          refine wp_seq_k fun K46 hK46 => ?_
          refine wp_region_lit ?_
          refine sB 1 [(69, .int .i64 0)] hF1 (by kernel_rfl) fun a1 hF1 => ?_
          refine wl (eP 70 (v0 := .bool (decide (0 = 0))) (v := .bool true) hF1 (by kernel_rfl) (fun _ => by kernel_rfl) (bT (by omega)) fun a1 hF1 => ?_)
          refine wpList_nil ?_
          refine hK46 _ _ ?_
          refine cT hF1 (by kernel_rfl) (by kernel_rfl) ?_
          have hq := tr_here (l := l) (k := k) (la := la) (by omega) (by assumption)
          refine wp_region_lit ?_
          refine sB 4 [(71, .pointer (some ⟨bb4, 0, none⟩)), (72, .pointer (some ⟨bb4, 0, none⟩)), (73, .pointer (some ⟨bb4, 0, none⟩)), (74, .pointer (some ⟨bb4, 0, none⟩))] hF1 (by kernel_rfl) fun a1 hF1 => ?_
          refine wl (eL 75 5 0 (v := .int .i64 (up cb cr co ((pr l k).1 - la))) hF1 hM (by kernel_rfl) rfl rfl (by kernel_rfl) (by kernel_rfl) fun a1 w hF1 hM => ?_)
          refine sB 1 [(76, .int .i64 ((pr l k).2 * 1048576))] hF1 (by kernel_rfl) fun a1 hF1 => ?_
          refine wl (eP 77 (v0 := .int .i64 (IntKind.i64.wrap (up cb cr co ((pr l k).1 - la) - (pr l k).2 * 1048576))) (v := .int .i64 (up cb cr co ((pr l k).1 - la) - (pr l k).2 * 1048576)) hF1 (by kernel_rfl) (fun _ => by kernel_rfl) (wi (by omega)) fun a1 hF1 => ?_)
          refine sB 3 [(78, .pointer (some ⟨bb4, 0, none⟩)), (79, .pointer (some ⟨bb4, 0, none⟩)), (80, .pointer (some ⟨bb4, 0, none⟩))] hF1 (by kernel_rfl) fun a1 hF1 => ?_
          refine wl (sStore (i := 5) (off := 0) (cs' := #[.int .i64 (up cb cr co ((pr l k).1 - la) - (pr l k).2 * 1048576), .int .i64 (up pb ps pe ((pr l k).1 - la) - (pr l k).2 * 1048576), .int .i64 (pr l k).1, .int .i64 cb, .int .i64 cr, .int .i64 pb, .int .i64 ps]) hF1 hM (by kernel_rfl) rfl rfl (by kernel_rfl) (by kernel_rfl) rfl (by kernel_rfl) fun w hM => ?_)
          refine wpList_nil ?_
          refine hK45 _ _ ?_
          refine wp_seq_k fun K47 hK47 => ?_
          refine wp_region_lit ?_
          refine sB 2 [(81, .int .i64 0), (6, .int .i64 0)] hF1 (by kernel_rfl) fun a1 hF1 => ?_
          refine wpList_nil ?_
          refine hK47 _ _ ?_
          refine wp_ret ?_
          refine hR18 _ _ ?_
          refine ret_of hF1 hM (.tmp rfl (.nil)) ⟨_, rfl, ?_⟩
          intro a hF
          refine wl (eM 59 (v := .pointer (some (ea (some ⟨bb5, 0, none⟩) (k)))) hF hM (by kernel_rfl) (yld_ix (kd := .i64) (e := 3) (len := l.length) (cap := l.length) (i := (k : Int)) (size := 1) (A := (some ⟨bb5, 0, none⟩)) hF rfl (by kernel_rfl) (by kernel_rfl) (by kernel_rfl) (by kernel_rfl) (by kernel_rfl) (roO 6 rfl) (by omega) (by omega) (by (try simp only [List.length_map, List.length_append, List.length_replicate, List.length_set, List.length_cons, List.length_nil, flat2_length, List.length_take]); omega)) fun a w hF hM => ?_)
          refine wl (sStoreO 6 (j := k) (A := (some ⟨bb5, 0, none⟩)) (((cs ++ List.replicate (l.length - k) 0).set k 0).map (Value.int .i64)) hF hM (by kernel_rfl) rfl rfl (by kernel_rfl) (by kernel_rfl) rfl (by kernel_rfl) rfl rfl (by (try simp only [List.length_map, List.length_append, List.length_replicate, List.length_set, List.length_cons, List.length_nil, flat2_length, List.length_take]); omega) (map_set' _ _ _ _) fun w hM => ?_)
          refine wpList_nil ?_
          refine hK16 _ _ ?_
          refine wp_region_lit ?_
          refine wl (eP 60 (v0 := .int .i64 (IntKind.i64.wrap ((k : Int) + 1))) (v := .int .i64 ((k : Int) + 1)) hF (by kernel_rfl) (fun _ => by kernel_rfl) (wi (by omega)) fun a hF => ?_)
          refine sB 1 [(46, .int .i64 ((k : Int) + 1))] hF (by kernel_rfl) fun a hF => ?_
          refine wpList_nil ?_
          refine hK13 _ _ ⟨(k + 1, (pr l k).1, up cb cr co ((pr l k).1 - la) - (pr l k).2 * 1048576, up pb ps pe ((pr l k).1 - la) - (pr l k).2 * 1048576, cs ++ [0]), ⟨((((((((Fr.nil hF).c hF (i := 45) rfl rfl).c hF (i := 44) rfl rfl).c hF (i := 13) rfl rfl).c hF (i := 12) rfl rfl).c hF (i := 7) rfl rfl).c hF (i := 6) rfl rfl).c hF (i := 46) rfl (vi (show ((k : Int) + 1 : Int) = ((k + 1) : Int) from by omega))), (hM.sub (((Sub.nil.c (k := 6) rfl (congrArg (fun x => Ent.own _ _ _ _ (List.map (Value.int .i64) x)) (set_fill _ _ _ (by omega) (by omega)))).c (k := 5) rfl rfl).c (k := 1) rfl rfl)), (show ((k + 1) : Int) ≤ (l.length : Int) from by omega), (show mrun cb cr pb ps 0 (cb * 1048576) (pb * 1048576) l = (cs ++ [0]) ++ mrun cb cr pb ps (pr l k).1 (up cb cr co ((pr l k).1 - la) - (pr l k).2 * 1048576) (up pb ps pe ((pr l k).1 - la) - (pr l k).2 * 1048576) (l.drop (k + 1)) from by exact mrun_step (drop_pr (by omega)) (by assumption) (by unfold colr; omega) (by simp) (by simp)), (show (cs ++ [0]).length = (k + 1) from by simp; omega), (show trOk (pr l k).1 (l.drop (k + 1)) = true from by exact hq.2.2.2.2), (show 0 ≤ (pr l k).1 from by omega), (show (pr l k).1 ≤ 1099511627776 from by omega), (show 0 ≤ (up cb cr co ((pr l k).1 - la) - (pr l k).2 * 1048576) from by omega), (show (up cb cr co ((pr l k).1 - la) - (pr l k).2 * 1048576) ≤ cb * 1048576 from by omega), (show 0 ≤ (up pb ps pe ((pr l k).1 - la) - (pr l k).2 * 1048576) from by omega), (show (up pb ps pe ((pr l k).1 - la) - (pr l k).2 * 1048576) ≤ pb * 1048576 from by omega)⟩, (show l.length - (k + 1) < l.length - k from by omega)⟩
    · skip
      replace hF := hF.c hF (i := 47) (v := .bool false) rfl (bF hz13)
      refine cF hF (by kernel_rfl) (by kernel_rfl) ?_
      refine wp_exit ?_
      refine hK11 _ _ ?_
      refine wp_seq_k fun K48 hK48 => ?_
      refine wp_region_lit ?_
      refine sB 3 [(61, .slice (some ⟨bb5, 0, none⟩) l.length l.length), (6, .slice (some ⟨bb5, 0, none⟩) l.length l.length), (7, .int .i64 0)] hF (by kernel_rfl) fun a hF => ?_
      refine wpList_nil ?_
      refine hK48 _ _ ?_
      refine wp_ret ?_
      refine hR0 _ _ ?_
      refine ret_of hF hM (.tmp rfl (.tmp rfl (.nil))) ?_
      have hk : l.length - k = 0 := by omega
      have hd : l.drop k = [] := List.drop_eq_nil_of_le (by omega)
      have ho := hM.ok 6 _ rfl
      refine ⟨_, _, rfl, ?_, hM.bel⟩
      have e : mrunF cb cr pb ps l = cs ++ List.replicate (l.length - k) 0 := by unfold mrunF; rw [‹mrun cb cr pb ps 0 (cb * 1048576) (pb * 1048576) l = _›, hd, hk]; rfl
      rw [e]; exact ho

end Go.Proofs.Ytncllmponigkgaa
