/-
  The conforming part of a draft.
-/
import Derived.Test.YtaekcgapbkmepaaFitW
import Derived.Test.YtaekcgapbkmepaaCfTrPlain
import Derived.Test.YtaekcgapbkmepaaDraftW
namespace Go.Proofs.Ytaekcgapbkmepaa
open Go.RowKit
set_option linter.unusedVariables false
set_option linter.unusedSimpArgs false

def cfDr (bu ra : Int) (gaps sizes : List Int) : List (Int × Int) := cfTr (1 + bu % 1048576) (1 + ra % 2097152) (drTrace gaps sizes)
theorem draftBucket_w (bu ra : Int) (g s : Value) (w0 : World) (h : 0 ≤ bu ∧ bu < 4294967296 ∧ 0 ≤ ra ∧ ra < 4294967296) :
    Calls Try.prog 9 #[.agg #[.int .u32 bu, .int .u32 ra, g, s]] w0 (Ret w0 (.agg #[.int .i64 (1 + bu % 1048576), .int .i64 (1 + ra % 2097152)])) := by
  refine enterK 14 Try.func9 rfl rfl rfl ?_
  intro a hF Q0 hR0 hN0
  have hM := Mem.start w0
  refine wp_seq_k fun K1 hK1 => ?_
  refine wp_region_lit ?_
  refine wl (eN 1 1 (t := 27) (fun b => .pointer (some ⟨b, 0, none⟩)) #[.int .u32 bu, .int .u32 ra, g, s] hF hM (by kernel_rfl) (fun _ => by kernel_rfl) fun bb1 a w hF hM => ?_)
  refine wl (eN 2 2 (t := 23) (fun b => .pointer (some ⟨b, 0, none⟩)) #[.int .i64 0, .int .i64 0] hF hM (by kernel_rfl) (fun _ => by kernel_rfl) fun bb2 a w hF hM => ?_)
  refine wpList_nil ?_
  refine hK1 _ _ ?_
  refine wp_seq_k fun K2 hK2 => ?_
  refine wp_region_lit ?_
  refine sB 1 [(3, .pointer (some ⟨bb1, 0, none⟩))] hF (by kernel_rfl) fun a hF => ?_
  refine wl (eL 4 1 0 (v := .int .u32 bu) hF hM (by kernel_rfl) rfl rfl (by kernel_rfl) (by kernel_rfl) fun a w hF hM => ?_)
  refine wl (eM 5 (v := .int .u32 (bu % 1048576)) hF hM (by kernel_rfl) (yld_rem bu 1048576 hF rfl (by kernel_rfl) (by kernel_rfl) (by kernel_rfl) (by decide) (Int.tmod_eq_emod_of_nonneg (by omega))) fun a w hF hM => ?_)
  refine wl (eP 6 (v0 := .int .i64 (IntKind.i64.wrap (bu % 1048576))) (v := .int .i64 (bu % 1048576)) hF (by kernel_rfl) (fun _ => by kernel_rfl) (vi (IntWalk.i64_in _ (by omega))) fun a hF => ?_)
  refine wl (eP 7 (v0 := .int .i64 (IntKind.i64.wrap (1 + bu % 1048576))) (v := .int .i64 (1 + bu % 1048576)) hF (by kernel_rfl) (fun _ => by kernel_rfl) (wi (by omega)) fun a hF => ?_)
  refine sB 1 [(8, .pointer (some ⟨bb1, 1, none⟩))] hF (by kernel_rfl) fun a hF => ?_
  refine wl (eL 9 1 1 (v := .int .u32 ra) hF hM (by kernel_rfl) rfl rfl (by kernel_rfl) (by kernel_rfl) fun a w hF hM => ?_)
  refine wl (eM 10 (v := .int .u32 (ra % 2097152)) hF hM (by kernel_rfl) (yld_rem ra 2097152 hF rfl (by kernel_rfl) (by kernel_rfl) (by kernel_rfl) (by decide) (Int.tmod_eq_emod_of_nonneg (by omega))) fun a w hF hM => ?_)
  refine wl (eP 11 (v0 := .int .i64 (IntKind.i64.wrap (ra % 2097152))) (v := .int .i64 (ra % 2097152)) hF (by kernel_rfl) (fun _ => by kernel_rfl) (vi (IntWalk.i64_in _ (by omega))) fun a hF => ?_)
  refine wl (eP 12 (v0 := .int .i64 (IntKind.i64.wrap (1 + ra % 2097152))) (v := .int .i64 (1 + ra % 2097152)) hF (by kernel_rfl) (fun _ => by kernel_rfl) (wi (by omega)) fun a hF => ?_)
  refine sB 1 [(13, .agg #[.int .i64 (1 + bu % 1048576), .int .i64 (1 + ra % 2097152)])] hF (by kernel_rfl) fun a hF => ?_
  refine wl (sStore (i := 2) (off := 0) (cs' := #[.int .i64 (1 + bu % 1048576), .int .i64 (1 + ra % 2097152)]) hF hM (by kernel_rfl) rfl rfl (by kernel_rfl) (by kernel_rfl) rfl (by kernel_rfl) fun w hM => ?_)
  refine wpList_nil ?_
  refine hK2 _ _ ?_
  refine wp_ret ?_
  refine hR0 _ _ ?_
  refine ret_of hF hM (.cell (i := 2) rfl rfl (v := .agg #[.int .i64 (1 + bu % 1048576), .int .i64 (1 + ra % 2097152)]) (by kernel_rfl) (.nil)) ?_
  exact ⟨rfl, hM.bel⟩

set_option maxRecDepth 100000 in
set_option maxHeartbeats 4000000 in
theorem conforming_w (bu ra : Int) (Ga : Option Addr) (gaps : List Int) (cg : Nat) (Sa : Option Addr) (sizes : List Int) (cs : Nat) (w0 : World) (hGa : Ro w0 Ga (gaps.map (Value.int .u16))) (hSa : Ro w0 Sa (sizes.map (Value.int .u16))) (hg : All16 gaps) (hs : All16 sizes) (hmg : gaps.length ≤ 9223372036854775807) (hms : sizes.length ≤ 9223372036854775807) (h : 0 ≤ bu ∧ bu < 4294967296 ∧ 0 ≤ ra ∧ ra < 4294967296) :
    Calls Try.prog 18 #[.agg #[.int .u32 bu, .int .u32 ra, .slice Ga gaps.length cg, .slice Sa sizes.length cs]] w0 (RetOwn w0 (fun v => v) 31 2 (cfDr bu ra gaps sizes).length (flat2 (cfDr bu ra gaps sizes))) := by
  refine enterK 32 Try.func18 rfl rfl rfl ?_
  intro a hF Q0 hR0 hN0
  have hM := Mem.start w0
  replace hM := hM.addOld 1 hGa (Nat.le_refl _)
  replace hM := hM.addOld 2 hSa (Nat.le_refl _)
  refine wp_seq_k fun K1 hK1 => ?_
  refine wp_region_lit ?_
  refine wl (eN 1 3 (t := 27) (fun b => .pointer (some ⟨b, 0, none⟩)) #[.int .u32 bu, .int .u32 ra, .slice Ga gaps.length cg, .slice Sa sizes.length cs] hF hM (by kernel_rfl) (fun _ => by kernel_rfl) fun bb1 a w hF hM => ?_)
  refine sB 1 [(2, .slice none 0 0)] hF (by kernel_rfl) fun a hF => ?_
  refine wpList_nil ?_
  refine hK1 _ _ ?_
  refine wp_seq_k fun K2 hK2 => ?_
  refine wp_region_lit ?_
  refine sB 1 [(3, .slice none 0 0)] hF (by kernel_rfl) fun a hF => ?_
  refine wpList_nil ?_
  refine hK2 _ _ ?_
  refine wp_seq_k fun K3 hK3 => ?_
  obtain ⟨dbb, e_dbb⟩ : ∃ x : Int, x = 1 + bu % 1048576 := ⟨_, rfl⟩
  obtain ⟨dbr, e_dbr⟩ : ∃ x : Int, x = 1 + ra % 2097152 := ⟨_, rfl⟩
  have hdb : bkE dbb dbr = 0 := by unfold bkE; omega
  have := bkE_ok hdb
  obtain ⟨ltr, e_ltr⟩ : ∃ x : List (Int × Int), x = drTrace gaps sizes := ⟨_, rfl⟩
  have tr_ltr : trE ltr = 0 := by rw [e_ltr]; exact dr_trE hg hs
  have le_ltr : ltr.length ≤ 30 := by rw [e_ltr]; exact dr_le _ _
  refine rF (by kernel_rfl) (by kernel_rfl) (fun S a w => ∃ AA2 : Option Addr, ∃ cc2 : Nat, ∃ bb3 : Nat, Fr 32 [(1, some (.pointer (some ⟨bb1, 0, none⟩))), (2, some (.slice none 0 0)), (3, some (.slice none 0 0)), (4, (cond (S.getD 4 false) (some (.pointer (some ⟨bb3, 0, none⟩))) none)), (5, (cond (S.getD 6 false) (some (.slice AA2 ltr.length cc2)) none)), (8, (cond (S.getD 0 false) (some (.agg #[.int .u32 bu, .int .u32 ra, .slice Ga gaps.length cg, .slice Sa sizes.length cs])) none)), (9, (cond (S.getD 1 false) (some (.agg #[.int .i64 dbb, .int .i64 dbr])) none)), (10, (cond (S.getD 2 false) (some (.agg #[.int .u32 bu, .int .u32 ra, .slice Ga gaps.length cg, .slice Sa sizes.length cs])) none)), (11, (cond (S.getD 3 false) (some (.slice AA2 ltr.length cc2)) none))] a ∧ Mem w0.heap.size w0 [(1, some (.ro Ga (gaps.map (Value.int .u16)))), (2, some (.ro Sa (sizes.map (Value.int .u16)))), (3, some (.row bb1 27 #[.int .u32 bu, .int .u32 ra, .slice Ga gaps.length cg, .slice Sa sizes.length cs])), (4, (cond (S.getD 3 false) (some (.own (.slice AA2 ltr.length cc2) 31 2 ltr.length (flat2 ltr))) none)), (5, (cond (S.getD 5 false) (some (.row bb3 23 #[.int .i64 dbb, .int .i64 dbr])) (cond (S.getD 4 false) (some (.row bb3 23 #[.int .i64 0, .int .i64 0])) none)))] w) ?_ ?_ ?_
  · exact ⟨none, 0, 0, ((((((((((Fr.nil hF).co hF (i := 11) (by kernel_rfl)).co hF (i := 10) (by kernel_rfl)).co hF (i := 9) (by kernel_rfl)).co hF (i := 8) (by kernel_rfl)).co hF (i := 5) (by kernel_rfl)).co hF (i := 4) (by kernel_rfl)).co hF (i := 3) (by kernel_rfl)).co hF (i := 2) (by kernel_rfl)).co hF (i := 1) (by kernel_rfl)), hM.drew.sub (((((Sub.nil.co (k := 5) (by kernel_rfl)).co (k := 4) (by kernel_rfl)).co (k := 3) (by kernel_rfl)).co (k := 2) (by kernel_rfl)).co (k := 1) (by kernel_rfl))⟩
  · refine stC ?_ (stC ?_ (stC ?_ (stC ?_ (stC ?_ (stC ?_ (stC ?_ (trivial)))))))
    · intro s0 s1 s2 s3 s4 s5 s6 hc hi hp a w hS
      obtain rfl : s0 = false := hi
      obtain ⟨AA2, cc2, bb3, hF, hM⟩ := hS
      refine eL 8 3 0 (v := .agg #[.int .u32 bu, .int .u32 ra, .slice Ga gaps.length cg, .slice Sa sizes.length cs]) hF hM (by kernel_rfl) rfl rfl (by kernel_rfl) (by kernel_rfl) fun a w hF hM => ?_
      exact ⟨AA2, cc2, bb3, ((hF.repl 5 (by kernel_rfl)).cast (by kernel_rfl)), (hM.cast (by kernel_rfl))⟩
    · intro s0 s1 s2 s3 s4 s5 s6 hc hi hp a w hS
      obtain rfl : s1 = false := hi
      obtain rfl : s0 = true := hp 0 (by kernel_rfl)
      obtain ⟨AA2, cc2, bb3, hF, hM⟩ := hS
      refine eM 9 (v := .agg #[.int .i64 dbb, .int .i64 dbr]) hF hM (by kernel_rfl) (yld_call (f := 9) (args := #[.agg #[.int .u32 bu, .int .u32 ra, .slice Ga gaps.length cg, .slice Sa sizes.length cs]]) hF (by kernel_rfl) (fun _ => by kernel_rfl) (fun w hM => by rw [e_dbb, e_dbr]; exact draftBucket_w bu ra (.slice Ga gaps.length cg) (.slice Sa sizes.length cs) w (by omega))) fun a w hF hM => ?_
      exact ⟨AA2, cc2, bb3, ((hF.repl 6 (by kernel_rfl)).cast (by kernel_rfl)), (hM.cast (by kernel_rfl))⟩
    · intro s0 s1 s2 s3 s4 s5 s6 hc hi hp a w hS
      obtain rfl : s2 = false := hi
      obtain ⟨AA2, cc2, bb3, hF, hM⟩ := hS
      refine eL 10 3 0 (v := .agg #[.int .u32 bu, .int .u32 ra, .slice Ga gaps.length cg, .slice Sa sizes.length cs]) hF hM (by kernel_rfl) rfl rfl (by kernel_rfl) (by kernel_rfl) fun a w hF hM => ?_
      exact ⟨AA2, cc2, bb3, ((hF.repl 7 (by kernel_rfl)).cast (by kernel_rfl)), (hM.cast (by kernel_rfl))⟩
    · intro s0 s1 s2 s3 s4 s5 s6 hc hi hp a w hS
      obtain rfl : s3 = false := hi
      obtain rfl : s2 = true := hp 2 (by kernel_rfl)
      obtain rfl : s6 = false := hc.f 6 3 (by kernel_rfl) rfl
      obtain ⟨AA2, cc2, bb3, hF, hM⟩ := hS
      refine sOwn 4 (f := 17) (args := #[.agg #[.int .u32 bu, .int .u32 ra, .slice Ga gaps.length cg, .slice Sa sizes.length cs]]) (mk := fun v => v) (e := 31) (size := 2) (m := ltr.length) (xs := (flat2 ltr)) hF hM (by kernel_rfl) rfl (by decide) (by kernel_rfl) (fun _ => by kernel_rfl) (by rw [e_ltr]; exact draftTrace_w bu ra Ga gaps cg Sa sizes cs w (hM.ok 1 _ rfl) (hM.ok 2 _ rfl) hg hs (by omega) (by omega)) fun AA2 cc2 a w hF hM => ?_
      exact ⟨AA2, cc2, bb3, ((hF.repl 8 (by kernel_rfl)).cast (by kernel_rfl)), ((hM.repl 3 (by kernel_rfl)).cast (by kernel_rfl))⟩
    · intro s0 s1 s2 s3 s4 s5 s6 hc hi hp a w hS
      obtain rfl : s4 = false := hi
      obtain rfl : s5 = false := hc.f 5 4 (by kernel_rfl) rfl
      obtain ⟨AA2, cc2, bb3, hF, hM⟩ := hS
      refine eN 4 5 (t := 23) (fun b => .pointer (some ⟨b, 0, none⟩)) #[.int .i64 0, .int .i64 0] hF hM (by kernel_rfl) (fun _ => by kernel_rfl) fun bb3 a w hF hM => ?_
      exact ⟨AA2, cc2, bb3, ((hF.repl 3 (by kernel_rfl)).cast (by kernel_rfl)), ((hM.repl 4 (by kernel_rfl)).cast (by kernel_rfl))⟩
    · intro s0 s1 s2 s3 s4 s5 s6 hc hi hp a w hS
      obtain rfl : s5 = false := hi
      obtain rfl : s4 = true := hp 4 (by kernel_rfl)
      obtain rfl : s1 = true := hp 1 (by kernel_rfl)
      obtain ⟨AA2, cc2, bb3, hF, hM⟩ := hS
      refine sStore (i := 5) (off := 0) (cs' := #[.int .i64 dbb, .int .i64 dbr]) hF hM (by kernel_rfl) rfl rfl (by kernel_rfl) (by kernel_rfl) rfl (by kernel_rfl) fun w hM => ?_
      exact ⟨AA2, cc2, bb3, (hF.cast (by kernel_rfl)), ((hM.repl 4 (by kernel_rfl)).cast (by kernel_rfl))⟩
    · intro s0 s1 s2 s3 s4 s5 s6 hc hi hp a w hS
      obtain rfl : s6 = false := hi
      obtain rfl : s3 = true := hp 3 (by kernel_rfl)
      obtain ⟨AA2, cc2, bb3, hF, hM⟩ := hS
      refine eP 5 (v0 := .slice AA2 ltr.length cc2) (v := .slice AA2 ltr.length cc2) hF (by kernel_rfl) (fun _ => by kernel_rfl) rfl fun a hF => ?_
      exact ⟨AA2, cc2, bb3, ((hF.repl 4 (by kernel_rfl)).cast (by kernel_rfl)), (hM.cast (by kernel_rfl))⟩
  · intro a w hS
    obtain ⟨AA2, cc2, bb3, hF, hM⟩ := hS
    replace hF : Fr 32 [(1, some (.pointer (some ⟨bb1, 0, none⟩))), (2, some (.slice none 0 0)), (3, some (.slice none 0 0)), (4, some (.pointer (some ⟨bb3, 0, none⟩))), (5, some (.slice AA2 ltr.length cc2)), (8, some (.agg #[.int .u32 bu, .int .u32 ra, .slice Ga gaps.length cg, .slice Sa sizes.length cs])), (9, some (.agg #[.int .i64 dbb, .int .i64 dbr])), (10, some (.agg #[.int .u32 bu, .int .u32 ra, .slice Ga gaps.length cg, .slice Sa sizes.length cs])), (11, some (.slice AA2 ltr.length cc2))] a := hF.cast (by kernel_rfl)
    replace hM : Mem w0.heap.size w0 [(1, some (.ro Ga (gaps.map (Value.int .u16)))), (2, some (.ro Sa (sizes.map (Value.int .u16)))), (3, some (.row bb1 27 #[.int .u32 bu, .int .u32 ra, .slice Ga gaps.length cg, .slice Sa sizes.length cs])), (4, some (.own (.slice AA2 ltr.length cc2) 31 2 ltr.length (flat2 ltr))), (5, some (.row bb3 23 #[.int .i64 dbb, .int .i64 dbr]))] w := hM.cast (by kernel_rfl)
    refine hK3 _ _ ?_
    refine wp_seq_k fun K4 hK4 => ?_
    refine wp_seq_k fun K5 hK5 => ?_
    refine wp_region_lit ?_
    refine sB 1 [(6, .int .i64 0)] hF (by kernel_rfl) fun a hF => ?_
    refine wpList_nil ?_
    refine hK5 _ _ ?_
    refine wp_block ?_
    replace hM := hM.addNil 6 31 2
    refine wp_loop_k (G := Nat × List (Int × Int) × Nat × Option Addr × Nat) (fun gg a w => Fr 32 [(3, some (.slice gg.2.2.2.1 gg.2.2.1 gg.2.2.2.2)), (6, some (.int .i64 (gg.1 : Int))), (2, some (.slice none 0 0)), (4, some (.pointer (some ⟨bb3, 0, none⟩))), (5, some (.slice AA2 ltr.length cc2))] a ∧ Mem w0.heap.size w0 [(1, some (.ro Ga (gaps.map (Value.int .u16)))), (2, some (.ro Sa (sizes.map (Value.int .u16)))), (4, some (.own (.slice AA2 ltr.length cc2) 31 2 ltr.length (flat2 ltr))), (5, some (.row bb3 23 #[.int .i64 dbb, .int .i64 dbr])), (6, some (.own (.slice gg.2.2.2.1 gg.2.2.1 gg.2.2.2.2) 31 2 gg.2.2.1 (flat2 gg.2.1)))] w ∧ ((gg.1 : Int) ≤ (ltr.length : Int)) ∧ ((gg.2.1.length : Int) = (gg.2.2.1 : Int)) ∧ (CfAt dbb dbr ltr gg.1 gg.2.1)) (fun gg => ltr.length - gg.1) (0, [], 0, none, 0) ?_ ?_
    · refine ⟨((((((Fr.nil hF).c hF (i := 5) rfl rfl).c hF (i := 4) rfl rfl).c hF (i := 2) rfl rfl).c hF (i := 6) rfl (vi (show (0 : Int) = (0 : Int) from by omega))).c hF (i := 3) rfl rfl), (hM.sub (((((Sub.nil.c (k := 6) rfl rfl).c (k := 5) rfl rfl).c (k := 4) rfl rfl).c (k := 2) rfl rfl).c (k := 1) rfl rfl)), (show (0 : Int) ≤ (ltr.length : Int) from by omega), (show (([]).length : Int) = (0 : Int) from by rfl), (show CfAt dbb dbr ltr 0 ([]) from by exact CfAt.zero hdb)⟩
    · intro gg a w hI
      intro K6 hK6
      obtain ⟨k, oo, on, G1, c1⟩ := gg
      try dsimp only at hI hK6
      obtain ⟨hF, hM, hz1, hz2, hz3⟩ := hI
      have htr := tr_ltr
      have hCf : CfAt dbb dbr ltr k oo := by assumption
      have hCl := hCf.len
      refine wp_seq_k fun K7 hK7 => ?_
      refine wp_seq_k fun K8 hK8 => ?_
      refine wp_region_lit ?_
      refine sB 4 [(12, .int .i64 (k : Int)), (13, .slice AA2 ltr.length cc2), (14, .int .i64 (ltr.length : Int)), (15, .bool (decide ((k : Int) < (ltr.length : Int))))] hF (by kernel_rfl) fun a hF => ?_
      refine wpList_nil ?_
      refine hK8 _ _ ?_
      by_cases hz4 : (k : Int) < (ltr.length : Int)
      · skip
        replace hF := hF.c hF (i := 15) (v := .bool true) rfl (bT hz4)
        refine cT hF (by kernel_rfl) (by kernel_rfl) ?_
        refine wp_skip ?_
        refine hK7 _ _ ?_
        refine wp_seq_k fun K9 hK9 => ?_
        refine wp_block ?_
        refine wp_seq_k fun K10 hK10 => ?_
        refine rF (by kernel_rfl) (by kernel_rfl) (fun S a w => ∃ bb4 : Nat, ∃ AA5 : Option Addr, ∃ cc5 : Nat, ∃ bb6 : Nat, ∃ AA7 : Option Addr, ∃ cc7 : Nat, Fr 32 [(2, some (.slice none 0 0)), (3, some (.slice G1 on c1)), (4, some (.pointer (some ⟨bb3, 0, none⟩))), (5, some (.slice AA2 ltr.length cc2)), (6, some (.int .i64 (k : Int))), (7, (cond (S.getD 9 false) (some (.slice AA7 (on + 1) cc7)) none)), (18, (cond (S.getD 0 false) (some (.slice (some ⟨bb4, 0, none⟩) 0 0)) none)), (19, (cond (S.getD 1 false) (some (.slice G1 on c1)) none)), (20, (cond (S.getD 2 false) (some (.slice AA5 on cc5)) none)), (21, (cond (S.getD 3 false) (some (.slice AA2 ltr.length cc2)) none)), (22, (cond (S.getD 4 false) (some (.int .i64 (k : Int))) none)), (23, (cond (S.getD 5 false) (some (.pointer (some (ea AA2 (k * 2))))) none)), (24, (cond (S.getD 6 false) (some (.agg #[.int .i64 (pr ltr k).1, .int .i64 (pr ltr k).2])) none)), (25, (cond (S.getD 7 false) (some (.slice (some ⟨bb6, 0, none⟩) 1 1)) none)), (26, (cond (S.getD 8 false) (some (.slice AA7 (on + 1) cc7)) none))] a ∧ Mem w0.heap.size w0 [(1, some (.ro Ga (gaps.map (Value.int .u16)))), (2, some (.ro Sa (sizes.map (Value.int .u16)))), (4, some (.own (.slice AA2 ltr.length cc2) 31 2 ltr.length (flat2 ltr))), (5, some (.row bb3 23 #[.int .i64 dbb, .int .i64 dbr])), (6, some (.own (.slice G1 on c1) 31 2 on (flat2 oo))), (7, (cond (S.getD 8 false) (some (.own (.slice AA7 (on + 1) cc7) 31 2 (on + 1) (flat2 (oo ++ [((pr ltr k).1, (pr ltr k).2)])))) (cond (S.getD 2 false) (some (.own (.slice AA5 on cc5) 31 2 on (flat2 oo))) (cond (S.getD 0 false) (some (.row bb4 31 #[])) none)))), (8, (cond (S.getD 7 false) (some (.row bb6 31 #[.int .i64 (pr ltr k).1, .int .i64 (pr ltr k).2])) none))] w) ?_ ?_ ?_
        · exact ⟨0, none, 0, 0, none, 0, ((((((((((((((((Fr.nil hF).co hF (i := 26) (by kernel_rfl)).co hF (i := 25) (by kernel_rfl)).co hF (i := 24) (by kernel_rfl)).co hF (i := 23) (by kernel_rfl)).co hF (i := 22) (by kernel_rfl)).co hF (i := 21) (by kernel_rfl)).co hF (i := 20) (by kernel_rfl)).co hF (i := 19) (by kernel_rfl)).co hF (i := 18) (by kernel_rfl)).co hF (i := 7) (by kernel_rfl)).co hF (i := 6) (by kernel_rfl)).co hF (i := 5) (by kernel_rfl)).co hF (i := 4) (by kernel_rfl)).co hF (i := 3) (by kernel_rfl)).co hF (i := 2) (by kernel_rfl)), hM.drew.sub (((((((Sub.nil.co (k := 8) (by kernel_rfl)).co (k := 7) (by kernel_rfl)).co (k := 6) (by kernel_rfl)).co (k := 5) (by kernel_rfl)).co (k := 4) (by kernel_rfl)).co (k := 2) (by kernel_rfl)).co (k := 1) (by kernel_rfl))⟩
        · refine stC ?_ (stC ?_ (stC ?_ (stC ?_ (stC ?_ (stC ?_ (stC ?_ (stC ?_ (stC ?_ (stC ?_ (trivial))))))))))
          · intro s0 s1 s2 s3 s4 s5 s6 s7 s8 s9 hc hi hp a w hS
            obtain rfl : s0 = false := hi
            obtain rfl : s2 = false := hc.f 2 0 (by kernel_rfl) rfl
            obtain rfl : s8 = false := hc.f 8 2 (by kernel_rfl) rfl
            obtain ⟨bb4, AA5, cc5, bb6, AA7, cc7, hF, hM⟩ := hS
            refine eN 18 7 (t := 31) (fun b => .slice (some ⟨b, 0, none⟩) 0 0) #[] hF hM (by kernel_rfl) (fun _ => by kernel_rfl) fun bb4 a w hF hM => ?_
            exact ⟨bb4, AA5, cc5, bb6, AA7, cc7, ((hF.repl 6 (by kernel_rfl)).cast (by kernel_rfl)), ((hM.repl 5 (by kernel_rfl)).cast (by kernel_rfl))⟩
          · intro s0 s1 s2 s3 s4 s5 s6 s7 s8 s9 hc hi hp a w hS
            obtain rfl : s1 = false := hi
            obtain ⟨bb4, AA5, cc5, bb6, AA7, cc7, hF, hM⟩ := hS
            refine eP 19 (v0 := .slice G1 on c1) (v := .slice G1 on c1) hF (by kernel_rfl) (fun _ => by kernel_rfl) rfl fun a hF => ?_
            exact ⟨bb4, AA5, cc5, bb6, AA7, cc7, ((hF.repl 7 (by kernel_rfl)).cast (by kernel_rfl)), (hM.cast (by kernel_rfl))⟩
          · intro s0 s1 s2 s3 s4 s5 s6 s7 s8 s9 hc hi hp a w hS
            obtain rfl : s2 = false := hi
            obtain rfl : s1 = true := hp 1 (by kernel_rfl)
            obtain rfl : s0 = true := hp 0 (by kernel_rfl)
            obtain rfl : s8 = false := hc.f 8 2 (by kernel_rfl) rfl
            obtain ⟨bb4, AA5, cc5, bb6, AA7, cc7, hF, hM⟩ := hS
            refine sAppR0 20 7 (e := 31) (size := 2) (bytes := 16) (z := .agg #[.int .i64 0, .int .i64 0]) (m := on) (c := c1) (news := (flat2 oo)) (flat2 oo) hF hM (by kernel_rfl) rfl (by kernel_rfl) (by kernel_rfl) (by kernel_rfl) rfl rfl rfl (by first | exact flat2_length _ | (rw [flat2_length]; omega)) (roO 6 rfl) (flat2_one _) (by omega) (by decide) rfl (own_nil hM (k := 6) rfl) fun AA5 cc5 a w hF hM => ?_
            exact ⟨bb4, AA5, cc5, bb6, AA7, cc7, ((hF.repl 8 (by kernel_rfl)).cast (by kernel_rfl)), ((hM.repl 5 (by kernel_rfl)).cast (by kernel_rfl))⟩
          · intro s0 s1 s2 s3 s4 s5 s6 s7 s8 s9 hc hi hp a w hS
            obtain rfl : s3 = false := hi
            obtain ⟨bb4, AA5, cc5, bb6, AA7, cc7, hF, hM⟩ := hS
            refine eP 21 (v0 := .slice AA2 ltr.length cc2) (v := .slice AA2 ltr.length cc2) hF (by kernel_rfl) (fun _ => by kernel_rfl) rfl fun a hF => ?_
            exact ⟨bb4, AA5, cc5, bb6, AA7, cc7, ((hF.repl 9 (by kernel_rfl)).cast (by kernel_rfl)), (hM.cast (by kernel_rfl))⟩
          · intro s0 s1 s2 s3 s4 s5 s6 s7 s8 s9 hc hi hp a w hS
            obtain rfl : s4 = false := hi
            obtain ⟨bb4, AA5, cc5, bb6, AA7, cc7, hF, hM⟩ := hS
            refine eP 22 (v0 := .int .i64 (k : Int)) (v := .int .i64 (k : Int)) hF (by kernel_rfl) (fun _ => by kernel_rfl) rfl fun a hF => ?_
            exact ⟨bb4, AA5, cc5, bb6, AA7, cc7, ((hF.repl 10 (by kernel_rfl)).cast (by kernel_rfl)), (hM.cast (by kernel_rfl))⟩
          · intro s0 s1 s2 s3 s4 s5 s6 s7 s8 s9 hc hi hp a w hS
            obtain rfl : s5 = false := hi
            obtain rfl : s4 = true := hp 4 (by kernel_rfl)
            obtain rfl : s3 = true := hp 3 (by kernel_rfl)
            obtain ⟨bb4, AA5, cc5, bb6, AA7, cc7, hF, hM⟩ := hS
            refine eM 23 (v := .pointer (some (ea AA2 (k * 2)))) hF hM (by kernel_rfl) (yld_ix (kd := .i64) (e := 31) (len := ltr.length) (cap := cc2) (i := (k : Int)) (size := 2) (A := AA2) hF rfl (by kernel_rfl) (by kernel_rfl) (by kernel_rfl) (by kernel_rfl) (by kernel_rfl) (roO 4 rfl) (by omega) (by omega) (by rw [flat2_length]; omega)) fun a w hF hM => ?_
            exact ⟨bb4, AA5, cc5, bb6, AA7, cc7, ((hF.repl 11 (by kernel_rfl)).cast (by kernel_rfl)), (hM.cast (by kernel_rfl))⟩
          · intro s0 s1 s2 s3 s4 s5 s6 s7 s8 s9 hc hi hp a w hS
            obtain rfl : s6 = false := hi
            obtain rfl : s5 = true := hp 5 (by kernel_rfl)
            obtain ⟨bb4, AA5, cc5, bb6, AA7, cc7, hF, hM⟩ := hS
            refine eM 24 (v := .agg #[.int .i64 (pr ltr k).1, .int .i64 (pr ltr k).2]) hF hM (by kernel_rfl) (yld_roM (A := AA2) (j := k * 2) (us := [.int .i64 (pr ltr k).1, .int .i64 (pr ltr k).2]) hF rfl (by kernel_rfl) (by kernel_rfl) (roO 4 rfl) (by kernel_rfl) rfl (pr_both (k := k) (by omega) (by omega))) fun a w hF hM => ?_
            exact ⟨bb4, AA5, cc5, bb6, AA7, cc7, ((hF.repl 12 (by kernel_rfl)).cast (by kernel_rfl)), (hM.cast (by kernel_rfl))⟩
          · intro s0 s1 s2 s3 s4 s5 s6 s7 s8 s9 hc hi hp a w hS
            obtain rfl : s7 = false := hi
            obtain rfl : s6 = true := hp 6 (by kernel_rfl)
            obtain ⟨bb4, AA5, cc5, bb6, AA7, cc7, hF, hM⟩ := hS
            refine eN 25 8 (t := 31) (fun b => .slice (some ⟨b, 0, none⟩) 1 1) #[.int .i64 (pr ltr k).1, .int .i64 (pr ltr k).2] hF hM (by kernel_rfl) (fun _ => by kernel_rfl) fun bb6 a w hF hM => ?_
            exact ⟨bb4, AA5, cc5, bb6, AA7, cc7, ((hF.repl 13 (by kernel_rfl)).cast (by kernel_rfl)), ((hM.repl 6 (by kernel_rfl)).cast (by kernel_rfl))⟩
          · intro s0 s1 s2 s3 s4 s5 s6 s7 s8 s9 hc hi hp a w hS
            obtain rfl : s8 = false := hi
            obtain rfl : s7 = true := hp 7 (by kernel_rfl)
            obtain rfl : s2 = true := hp 2 (by kernel_rfl)
            obtain rfl : s0 = true := hc 2 0 (by kernel_rfl) rfl
            obtain rfl : s9 = false := hc.f 9 8 (by kernel_rfl) rfl
            obtain ⟨bb4, AA5, cc5, bb6, AA7, cc7, hF, hM⟩ := hS
            refine sApp 26 7 (e := 31) (size := 2) (bytes := 16) (z := .agg #[.int .i64 0, .int .i64 0]) (m := 1) (c := 1) (l := on) (cap := cc5) (A := AA5) (news := [.int .i64 (pr ltr k).1, .int .i64 (pr ltr k).2]) (flat2 (oo ++ [((pr ltr k).1, (pr ltr k).2)])) hF hM (by kernel_rfl) rfl (by kernel_rfl) (by kernel_rfl) (by kernel_rfl) rfl rfl rfl rfl (roR 8 rfl) (by simp [Value.oneCell']) (by omega) (by decide) (flat2_snoc' _ _ _) fun AA7 cc7 a w hF hM => ?_
            exact ⟨bb4, AA5, cc5, bb6, AA7, cc7, ((hF.repl 14 (by kernel_rfl)).cast (by kernel_rfl)), ((hM.repl 5 (by kernel_rfl)).cast (by kernel_rfl))⟩
          · intro s0 s1 s2 s3 s4 s5 s6 s7 s8 s9 hc hi hp a w hS
            obtain rfl : s9 = false := hi
            obtain rfl : s8 = true := hp 8 (by kernel_rfl)
            obtain rfl : s2 = true := hp 2 (by kernel_rfl)
            obtain rfl : s0 = true := hp 0 (by kernel_rfl)
            obtain ⟨bb4, AA5, cc5, bb6, AA7, cc7, hF, hM⟩ := hS
            refine eP 7 (v0 := .slice AA7 (on + 1) cc7) (v := .slice AA7 (on + 1) cc7) hF (by kernel_rfl) (fun _ => by kernel_rfl) rfl fun a hF => ?_
            exact ⟨bb4, AA5, cc5, bb6, AA7, cc7, ((hF.repl 5 (by kernel_rfl)).cast (by kernel_rfl)), (hM.cast (by kernel_rfl))⟩
        · intro a w hS
          obtain ⟨bb4, AA5, cc5, bb6, AA7, cc7, hF, hM⟩ := hS
          replace hF : Fr 32 [(2, some (.slice none 0 0)), (3, some (.slice G1 on c1)), (4, some (.pointer (some ⟨bb3, 0, none⟩))), (5, some (.slice AA2 ltr.length cc2)), (6, some (.int .i64 (k : Int))), (7, some (.slice AA7 (on + 1) cc7)), (18, some (.slice (some ⟨bb4, 0, none⟩) 0 0)), (19, some (.slice G1 on c1)), (20, some (.slice AA5 on cc5)), (21, some (.slice AA2 ltr.length cc2)), (22, some (.int .i64 (k : Int))), (23, some (.pointer (some (ea AA2 (k * 2))))), (24, some (.agg #[.int .i64 (pr ltr k).1, .int .i64 (pr ltr k).2])), (25, some (.slice (some ⟨bb6, 0, none⟩) 1 1)), (26, some (.slice AA7 (on + 1) cc7))] a := hF.cast (by kernel_rfl)
          replace hM : Mem w0.heap.size w0 [(1, some (.ro Ga (gaps.map (Value.int .u16)))), (2, some (.ro Sa (sizes.map (Value.int .u16)))), (4, some (.own (.slice AA2 ltr.length cc2) 31 2 ltr.length (flat2 ltr))), (5, some (.row bb3 23 #[.int .i64 dbb, .int .i64 dbr])), (6, some (.own (.slice G1 on c1) 31 2 on (flat2 oo))), (7, some (.own (.slice AA7 (on + 1) cc7) 31 2 (on + 1) (flat2 (oo ++ [((pr ltr k).1, (pr ltr k).2)])))), (8, some (.row bb6 31 #[.int .i64 (pr ltr k).1, .int .i64 (pr ltr k).2]))] w := hM.cast (by kernel_rfl)
          refine hK10 _ _ ?_
          refine wp_seq_k fun K11 hK11 => ?_
          have hnt : trE (oo ++ [((pr ltr k).1, (pr ltr k).2)]) = 0 := hCf.tr htr (by omega) (by omega)
          refine wp_region_lit ?_
          refine wl (eL 27 5 0 (v := .agg #[.int .i64 dbb, .int .i64 dbr]) hF hM (by kernel_rfl) rfl rfl (by kernel_rfl) (by kernel_rfl) fun a w hF hM => ?_)
          refine sB 1 [(28, .slice AA7 (on + 1) cc7)] hF (by kernel_rfl) fun a hF => ?_
          refine wl (eM 29 (v := .bool (cfB dbb dbr (oo ++ [((pr ltr k).1, (pr ltr k).2)]))) hF hM (by kernel_rfl) (yld_call (f := 31) (args := #[.agg #[.int .i64 dbb, .int .i64 dbr], .slice AA7 (on + 1) cc7]) hF (by kernel_rfl) (fun _ => by kernel_rfl) (fun w hM => (by rw [show on + 1 = (oo ++ [((pr ltr k).1, (pr ltr k).2)]).length from by first | omega | (simp; done) | (simp; omega)]; exact fits_w dbb dbr AA7 (oo ++ [((pr ltr k).1, (pr ltr k).2)]) cc7 w (ro_of_own (hM.ok 7 _ rfl)) (ckE_zero hdb hnt)))) fun a w hF hM => ?_)
          refine wpList_nil ?_
          refine hK11 _ _ ?_
          cases hz5 : (cfB dbb dbr (oo ++ [((pr ltr k).1, (pr ltr k).2)]))
          · skip
            replace hF := hF.c hF (i := 29) (v := .bool false) rfl (congrArg Value.bool hz5)
            refine cF hF (by kernel_rfl) (by kernel_rfl) ?_
            refine wp_skip ?_
            refine hK9 _ _ ?_
            refine wp_region_lit ?_
            refine sB 1 [(16, .int .i64 (k : Int))] hF (by kernel_rfl) fun a hF => ?_
            refine wl (eP 17 (v0 := .int .i64 (IntKind.i64.wrap ((k : Int) + 1))) (v := .int .i64 ((k : Int) + 1)) hF (by kernel_rfl) (fun _ => by kernel_rfl) (wi (by omega)) fun a hF => ?_)
            refine sB 1 [(6, .int .i64 ((k : Int) + 1))] hF (by kernel_rfl) fun a hF => ?_
            refine wpList_nil ?_
            refine hK6 _ _ ⟨(k + 1, oo, on, G1, c1), ⟨((((((Fr.nil hF).c hF (i := 5) rfl rfl).c hF (i := 4) rfl rfl).c hF (i := 2) rfl rfl).c hF (i := 6) rfl (vi (show ((k : Int) + 1 : Int) = ((k + 1) : Int) from by omega))).c hF (i := 3) rfl rfl), (hM.sub (((((Sub.nil.c (k := 6) rfl rfl).c (k := 5) rfl rfl).c (k := 4) rfl rfl).c (k := 2) rfl rfl).c (k := 1) rfl rfl)), (show ((k + 1) : Int) ≤ (ltr.length : Int) from by omega), (show (oo.length : Int) = (on : Int) from by omega), (show CfAt dbb dbr ltr (k + 1) oo from by exact hCf.no htr (by omega) hz5)⟩, (show ltr.length - (k + 1) < ltr.length - k from by omega)⟩
          · skip
            replace hF := hF.c hF (i := 29) (v := .bool true) rfl (congrArg Value.bool hz5)
            refine cT hF (by kernel_rfl) (by kernel_rfl) ?_
            refine wp_region_lit ?_
            refine sB 2 [(30, .slice AA7 (on + 1) cc7), (3, .slice AA7 (on + 1) cc7)] hF (by kernel_rfl) fun a hF => ?_
            refine wpList_nil ?_
            refine hK9 _ _ ?_
            refine wp_region_lit ?_
            refine sB 1 [(16, .int .i64 (k : Int))] hF (by kernel_rfl) fun a hF => ?_
            refine wl (eP 17 (v0 := .int .i64 (IntKind.i64.wrap ((k : Int) + 1))) (v := .int .i64 ((k : Int) + 1)) hF (by kernel_rfl) (fun _ => by kernel_rfl) (wi (by omega)) fun a hF => ?_)
            refine sB 1 [(6, .int .i64 ((k : Int) + 1))] hF (by kernel_rfl) fun a hF => ?_
            refine wpList_nil ?_
            replace hM := hM.move 6 7 rfl (by decide)
            refine hK6 _ _ ⟨(k + 1, oo ++ [((pr ltr k).1, (pr ltr k).2)], on + 1, AA7, cc7), ⟨((((((Fr.nil hF).c hF (i := 5) rfl rfl).c hF (i := 4) rfl rfl).c hF (i := 2) rfl rfl).c hF (i := 6) rfl (vi (show ((k : Int) + 1 : Int) = ((k + 1) : Int) from by omega))).c hF (i := 3) rfl rfl), (hM.sub (((((Sub.nil.c (k := 6) rfl rfl).c (k := 5) rfl rfl).c (k := 4) rfl rfl).c (k := 2) rfl rfl).c (k := 1) rfl rfl)), (show ((k + 1) : Int) ≤ (ltr.length : Int) from by omega), (show ((oo ++ [((pr ltr k).1, (pr ltr k).2)]).length : Int) = ((on + 1) : Int) from by first | omega | (simp; omega)), (show CfAt dbb dbr ltr (k + 1) (oo ++ [((pr ltr k).1, (pr ltr k).2)]) from by exact hCf.yes htr (by omega) hz5)⟩, (show ltr.length - (k + 1) < ltr.length - k from by omega)⟩
      · skip
        replace hF := hF.c hF (i := 15) (v := .bool false) rfl (bF hz4)
        refine cF hF (by kernel_rfl) (by kernel_rfl) ?_
        refine wp_exit ?_
        refine hK4 _ _ ?_
        refine wp_seq_k fun K12 hK12 => ?_
        refine wp_region_lit ?_
        refine sB 2 [(31, .slice G1 on c1), (2, .slice G1 on c1)] hF (by kernel_rfl) fun a hF => ?_
        refine wpList_nil ?_
        refine hK12 _ _ ?_
        refine wp_ret ?_
        refine hR0 _ _ ?_
        refine ret_of hF hM (.tmp rfl (.nil)) ?_
        have hd := hCf.done (by omega)
        have hl : (cfTr dbb dbr ltr).length = on := by rw [hd]; omega
        have ho := hM.ok 6 _ rfl
        have hx : cfDr bu ra gaps sizes = oo := by rw [← hd, e_dbb, e_dbr, e_ltr]; rfl
        exact ⟨_, _, by rw [hx, show oo.length = on from by omega]; rfl, by rw [hx, show oo.length = on from by omega]; exact ho, hM.bel⟩

end Go.Proofs.Ytaekcgapbkmepaa
