/-
  credit.Run.
-/
import Derived.Test.YtjepnlebmgkomaaCrA
namespace Go.Proofs.Ytjepnlebmgkomaa
open Go.RowKit
set_option linter.unusedVariables false
set_option linter.unusedSimpArgs false

def RunPost (w0 : World) (res : Int × List Int × Int × Int) (en : Ending) (w' : World) : Prop :=
  (res.1 = 0 → RetOwn w0 (fun v => .tuple #[v, .agg #[.int .i64 res.2.2.1, .int .i64 res.2.2.2], .int .i64 0]) 3 1 res.2.1.length (res.2.1.map (Value.int .i64)) en w') ∧
  (res.1 ≠ 0 → Ret w0 (.tuple #[.slice none 0 0, .agg #[.int .i64 0, .int .i64 0], .int .i64 res.1]) en w')
theorem runPost_err {w0 : World} {res : Int × List Int × Int × Int} {en : Ending} {w' : World} {e : Int} (h : res = (e, [], 0, 0)) (he : e ≠ 0) (hr : Ret w0 (.tuple #[.slice none 0 0, .agg #[.int .i64 0, .int .i64 0], .int .i64 e]) en w') : RunPost w0 res en w' := by
  subst h
  exact ⟨fun h => absurd h he, fun _ => hr⟩
theorem all_at {l : List (Int × Int)} {k : Nat} (h : l.all okFrame = true) (hk : k < l.length) : 0 ≤ (pr l k).1 ∧ (pr l k).1 ≤ 1073741824 ∧ (pr l k).2 ≤ 1542 := by
  have := List.all_eq_true.1 h (pr l k) (List.mem_of_getElem? (pr_some hk))
  simp [okFrame, timeB] at this
  omega
theorem all_nt {l : List Int} {k : Nat} (h : l.all timeB = true) (hk : k < l.length) : 0 ≤ nt l k ∧ nt l k ≤ 1073741824 := by
  have := List.all_eq_true.1 h (nt l k) (List.mem_of_getElem? (nt_some hk))
  simp [timeB] at this
  omega
theorem args_of {l : List (Int × Int)} {free : List Int} (h1 : l.all okFrame = true) (h2 : free.all timeB = true) : runArgs l free = true := by simp [runArgs, h1, h2]
theorem args_l {l : List (Int × Int)} {free : List Int} (h1 : l.all okFrame = false) : runArgs l free = false := by simp [runArgs, h1]
theorem args_f {l : List (Int × Int)} {free : List Int} (h2 : free.all timeB = false) : runArgs l free = false := by simp [runArgs, h2]

set_option maxRecDepth 100000 in
set_option maxHeartbeats 4000000 in
theorem crRun_w (r p : Int) (A : Option Addr) (l : List (Int × Int)) (c : Nat) (B : Option Addr) (free : List Int) (d : Nat) (w0 : World) (hA : Ro w0 A (flat2 l)) (hB : Ro w0 B (free.map (Value.int .i64))) (hm : (free.length : Int) ≤ 9223372036854775807) (hml : (l.length : Int) ≤ 9223372036854775807) :
    Calls Try.prog 12 #[.agg #[.int .i64 r, .int .i64 p], .slice A l.length c, .slice B free.length d] w0 (RunPost w0 (runS r p l free)) := by
  refine enterK 100 Try.func12 rfl rfl rfl ?_
  intro a hF Q0 hR0 hN0
  have hM := Mem.start w0
  replace hM := hM.addOld 1 hA (Nat.le_refl _)
  replace hM := hM.addOld 2 hB (Nat.le_refl _)
  refine wp_seq_k fun K1 hK1 => ?_
  refine wp_region_lit ?_
  refine wl (eN 3 3 (t := 23) (fun b => .pointer (some ⟨b, 0, none⟩)) #[.int .i64 r, .int .i64 p] hF hM (by kernel_rfl) (fun _ => by kernel_rfl) fun bb1 a w hF hM => ?_)
  refine sB 1 [(6, .slice none 0 0)] hF (by kernel_rfl) fun a hF => ?_
  refine wl (eN 7 4 (t := 40) (fun b => .pointer (some ⟨b, 0, none⟩)) #[.int .i64 0, .int .i64 0] hF hM (by kernel_rfl) (fun _ => by kernel_rfl) fun bb2 a w hF hM => ?_)
  refine sB 1 [(8, .int .i64 0)] hF (by kernel_rfl) fun a hF => ?_
  refine wpList_nil ?_
  refine hK1 _ _ ?_
  refine wp_seq_k fun K2 hK2 => ?_
  refine wp_seq_k fun K3 hK3 => ?_
  refine wp_region_lit ?_
  refine wl (eL 21 3 0 (v := .agg #[.int .i64 r, .int .i64 p]) hF hM (by kernel_rfl) rfl rfl (by kernel_rfl) (by kernel_rfl) fun a w hF hM => ?_)
  refine wl (eM 22 (v := .int .i64 (slopeE r p)) hF hM (by kernel_rfl) (yld_call (f := 16) (args := #[.agg #[.int .i64 r, .int .i64 p]]) hF (by kernel_rfl) (fun _ => by kernel_rfl) (fun w hM => crCheck_w r p w)) fun a w hF hM => ?_)
  refine sB 1 [(9, .int .i64 (slopeE r p))] hF (by kernel_rfl) fun a hF => ?_
  refine wpList_nil ?_
  refine hK3 _ _ ?_
  refine wp_seq_k fun K4 hK4 => ?_
  refine wp_region_lit ?_
  refine sB 2 [(23, .int .i64 (slopeE r p)), (24, .bool (!decide (slopeE r p = 0)))] hF (by kernel_rfl) fun a hF => ?_
  refine wpList_nil ?_
  refine hK4 _ _ ?_
  by_cases hz1 : slopeE r p = 0
  · skip
    have hz2 := slopeE_ok hz1
    replace hF := hF.c hF (i := 24) (v := .bool false) rfl (nT hz1)
    refine cF hF (by kernel_rfl) (by kernel_rfl) ?_
    refine wp_skip ?_
    refine hK2 _ _ ?_
    refine wp_seq_k fun K5 hK5 => ?_
    refine wp_seq_k fun K6 hK6 => ?_
    refine wp_region_lit ?_
    refine sB 1 [(27, .slice A l.length c)] hF (by kernel_rfl) fun a hF => ?_
    refine wl (eM 28 (v := .int .i64 (trE l)) hF hM (by kernel_rfl) (yld_call (f := 26) (args := #[.slice A l.length c]) hF (by kernel_rfl) (fun _ => by kernel_rfl) (fun w hM => checkTrace_w A l c w (hM.ok 1 _ rfl))) fun a w hF hM => ?_)
    refine sB 1 [(10, .int .i64 (trE l))] hF (by kernel_rfl) fun a hF => ?_
    refine wpList_nil ?_
    refine hK6 _ _ ?_
    refine wp_seq_k fun K7 hK7 => ?_
    refine wp_region_lit ?_
    refine sB 2 [(29, .int .i64 (trE l)), (30, .bool (!decide (trE l = 0)))] hF (by kernel_rfl) fun a hF => ?_
    refine wpList_nil ?_
    refine hK7 _ _ ?_
    by_cases hz3 : trE l = 0
    · skip
      have hz4 := trE_ok hz3
      replace hF := hF.c hF (i := 30) (v := .bool false) rfl (nT hz3)
      refine cF hF (by kernel_rfl) (by kernel_rfl) ?_
      refine wp_skip ?_
      refine hK5 _ _ ?_
      refine wp_seq_k fun K8 hK8 => ?_
      refine wp_seq_k fun K9 hK9 => ?_
      refine wp_region_lit ?_
      refine sB 5 [(33, .slice B free.length d), (34, .int .i64 (free.length : Int)), (35, .slice A l.length c), (36, .int .i64 (l.length : Int)), (37, .bool (decide ((l.length : Int) < (free.length : Int))))] hF (by kernel_rfl) fun a hF => ?_
      refine wpList_nil ?_
      refine hK9 _ _ ?_
      by_cases hz5 : (l.length : Int) < (free.length : Int)
      · skip
        replace hF := hF.c hF (i := 37) (v := .bool true) rfl (bT hz5)
        refine cT hF (by kernel_rfl) (by kernel_rfl) ?_
        refine wp_seq_k fun K10 hK10 => ?_
        refine wp_region_lit ?_
        refine sB 2 [(38, .agg #[.int .i64 0, .int .i64 0]), (6, .slice none 0 0)] hF (by kernel_rfl) fun a hF => ?_
        refine wl (sStore (i := 4) (off := 0) (cs' := #[.int .i64 0, .int .i64 0]) hF hM (by kernel_rfl) rfl rfl (by kernel_rfl) (by kernel_rfl) rfl (by kernel_rfl) fun w hM => ?_)
        refine sB 1 [(8, .int .i64 3)] hF (by kernel_rfl) fun a hF => ?_
        refine wpList_nil ?_
        refine hK10 _ _ ?_
        refine wp_ret ?_
        refine hR0 _ _ ?_
        refine ret_of hF hM (.tmp rfl (.cell (i := 4) rfl rfl (v := .agg #[.int .i64 0, .int .i64 0]) (by kernel_rfl) (.tmp rfl (.nil)))) ?_
        exact runPost_err (runS_bad3 (slopeB_of hz1) (trB_of hz3) (by omega)) (by decide) ⟨rfl, hM.bel⟩
      · skip
        replace hF := hF.c hF (i := 37) (v := .bool false) rfl (bF hz5)
        refine cF hF (by kernel_rfl) (by kernel_rfl) ?_
        refine wp_skip ?_
        refine hK8 _ _ ?_
        refine wp_seq_k fun K11 hK11 => ?_
        refine wp_seq_k fun K12 hK12 => ?_
        refine wp_region_lit ?_
        refine sB 3 [(39, .slice A l.length c), (40, .int .i64 (l.length : Int)), (41, .int .i64 0)] hF (by kernel_rfl) fun a hF => ?_
        refine wpList_nil ?_
        refine hK12 _ _ ?_
        refine wp_block ?_
        refine wp_loop_k (G := Nat) (fun gg a w => Fr 100 [(41, some (.int .i64 (gg : Int))), (1, some (.slice A l.length c)), (2, some (.slice B free.length d)), (3, some (.pointer (some ⟨bb1, 0, none⟩))), (7, some (.pointer (some ⟨bb2, 0, none⟩))), (39, some (.slice A l.length c)), (40, some (.int .i64 (l.length : Int)))] a ∧ Mem w0.heap.size w0 [(1, some (.ro A (flat2 l))), (2, some (.ro B (free.map (Value.int .i64)))), (3, some (.row bb1 23 #[.int .i64 r, .int .i64 p])), (4, some (.row bb2 40 #[.int .i64 0, .int .i64 0]))] w ∧ ((gg : Int) ≤ (l.length : Int)) ∧ (Passed okFrame l gg)) (fun gg => l.length - gg) (0) ?_ ?_
        · refine ⟨((((((((Fr.nil hF).c hF (i := 40) rfl rfl).c hF (i := 39) rfl rfl).c hF (i := 7) rfl rfl).c hF (i := 3) rfl rfl).c hF (i := 2) rfl rfl).c hF (i := 1) rfl rfl).c hF (i := 41) rfl (vi (show (0 : Int) = (0 : Int) from by omega))), (hM.sub ((((Sub.nil.c (k := 4) rfl rfl).c (k := 3) rfl rfl).c (k := 2) rfl rfl).c (k := 1) rfl rfl)), (show (0 : Int) ≤ (l.length : Int) from by omega), (show Passed okFrame l 0 from by exact passed_zero _ _)⟩
        · intro gg a w hI
          intro K13 hK13
          obtain ⟨k, rfl⟩ : ∃ x, x = gg := ⟨_, rfl⟩
          try dsimp only at hI hK13
          obtain ⟨hF, hM, hz6, hz7⟩ := hI
          refine wp_seq_k fun K14 hK14 => ?_
          refine wp_region_lit ?_
          refine sB 1 [(42, .bool (decide ((k : Int) < (l.length : Int))))] hF (by kernel_rfl) fun a hF => ?_
          refine wpList_nil ?_
          refine hK14 _ _ ?_
          refine wp_seq_k fun K15 hK15 => ?_
          by_cases hz8 : (k : Int) < (l.length : Int)
          · skip
            replace hF := hF.c hF (i := 42) (v := .bool true) rfl (bT hz8)
            refine cT hF (by kernel_rfl) (by kernel_rfl) ?_
            refine wp_skip ?_
            refine hK15 _ _ ?_
            refine wp_seq_k fun K16 hK16 => ?_
            refine wp_block ?_
            refine wp_seq_k fun K17 hK17 => ?_
            refine wp_region_lit ?_
            refine wl (eM 43 (v := .pointer (some (ea A (k * 2)))) hF hM (by kernel_rfl) (yld_ix (kd := .i64) (e := 57) (len := l.length) (cap := c) (i := (k : Int)) (size := 2) (A := A) hF rfl (by kernel_rfl) (by kernel_rfl) (by kernel_rfl) (by kernel_rfl) (by kernel_rfl) (roK 1 rfl) (by omega) (by omega) (by rw [flat2_length]; omega)) fun a w hF hM => ?_)
            refine wl (eM 44 (v := .agg #[.int .i64 (pr l k).1, .int .i64 (pr l k).2]) hF hM (by kernel_rfl) (yld_roM (A := A) (j := k * 2) (us := [.int .i64 (pr l k).1, .int .i64 (pr l k).2]) hF rfl (by kernel_rfl) (by kernel_rfl) (roK 1 rfl) (by kernel_rfl) rfl (pr_both (k := k) (by omega) (by omega))) fun a w hF hM => ?_)
            refine wl (eN 12 5 (t := 57) (fun b => .pointer (some ⟨b, 0, none⟩)) #[.int .i64 0, .int .i64 0] hF hM (by kernel_rfl) (fun _ => by kernel_rfl) fun bb3 a w hF hM => ?_)
            refine wl (sStore (i := 5) (off := 0) (cs' := #[.int .i64 (pr l k).1, .int .i64 (pr l k).2]) hF hM (by kernel_rfl) rfl rfl (by kernel_rfl) (by kernel_rfl) rfl (by kernel_rfl) fun w hM => ?_)
            refine wpList_nil ?_
            refine hK17 _ _ ?_
            refine wp_seq_k fun K18 hK18 => ?_
            refine wp_region_lit ?_
            refine sB 1 [(45, .pointer (some ⟨bb3, 0, none⟩))] hF (by kernel_rfl) fun a hF => ?_
            refine wl (eL 46 5 0 (v := .int .i64 (pr l k).1) hF hM (by kernel_rfl) rfl rfl (by kernel_rfl) (by kernel_rfl) fun a w hF hM => ?_)
            refine wl (sC (f := 27) (args := #[.int .i64 (pr l k).1]) hF (by kernel_rfl) rfl (by decide) (by kernel_rfl) (fun _ => by kernel_rfl) ?_)
            refine enterK 9 Try.func27 rfl rfl rfl ?_
            intro a1 hF1 QR19 hR19 hNR19
            refine wp_seq_k fun K20 hK20 => ?_
            refine wp_region_lit ?_
            refine sB 1 [(2, .bool false)] hF1 (by kernel_rfl) fun a1 hF1 => ?_
            refine wpList_nil ?_
            refine hK20 _ _ ?_
            refine wp_seq_k fun K21 hK21 => ?_
            by_cases hz9 : 0 ≤ (pr l k).1
            · skip
              refine wp_region_lit ?_
              refine sB 1 [(3, .int .i64 (pr l k).1)] hF1 (by kernel_rfl) fun a1 hF1 => ?_
              refine wl (eP 4 (v0 := .bool (decide (0 ≤ (pr l k).1))) (v := .bool true) hF1 (by kernel_rfl) (fun _ => by kernel_rfl) (bT hz9) fun a1 hF1 => ?_)
              refine sB 5 [(5, .bool true), (6, .int .i64 (pr l k).1), (7, .bool (decide ((pr l k).1 ≤ 1073741824))), (8, .bool (decide ((pr l k).1 ≤ 1073741824))), (2, .bool (decide ((pr l k).1 ≤ 1073741824)))] hF1 (by kernel_rfl) fun a1 hF1 => ?_
              refine wpList_nil ?_
              refine hK21 _ _ ?_
              refine wp_ret ?_
              refine hR19 _ _ ?_
              refine ret_of hF1 hM (.tmp rfl (.nil)) ⟨_, rfl, ?_⟩
              intro a hF
              refine sB 2 [(48, .bool (!decide ((pr l k).1 ≤ 1073741824))), (49, .bool (!decide ((pr l k).1 ≤ 1073741824)))] hF (by kernel_rfl) fun a hF => ?_
              by_cases hz10 : (pr l k).1 ≤ 1073741824
              · skip
                replace hF := hF.c hF (i := 47) (v := .bool true) rfl (bT hz10)
                replace hF := hF.c hF (i := 48) (v := .bool false) rfl (nT hz10)
                replace hF := hF.c hF (i := 49) (v := .bool false) rfl (nT hz10)
                refine sB 1 [(50, .pointer (some ⟨bb3, 1, none⟩))] hF (by kernel_rfl) fun a hF => ?_
                refine wl (eL 51 5 1 (v := .int .i64 (pr l k).2) hF hM (by kernel_rfl) rfl rfl (by kernel_rfl) (by kernel_rfl) fun a w hF hM => ?_)
                refine sB 2 [(52, .bool (decide (1542 < (pr l k).2))), (53, .bool (decide (1542 < (pr l k).2)))] hF (by kernel_rfl) fun a hF => ?_
                refine wpList_nil ?_
                refine hK18 _ _ ?_
                by_cases hz11 : 1542 < (pr l k).2
                · skip
                  replace hF := hF.c hF (i := 52) (v := .bool true) rfl (bT hz11)
                  replace hF := hF.c hF (i := 53) (v := .bool true) rfl (bT hz11)
                  refine cT hF (by kernel_rfl) (by kernel_rfl) ?_
                  refine wp_seq_k fun K22 hK22 => ?_
                  refine wp_region_lit ?_
                  refine sB 2 [(54, .agg #[.int .i64 0, .int .i64 0]), (6, .slice none 0 0)] hF (by kernel_rfl) fun a hF => ?_
                  refine wl (sStore (i := 4) (off := 0) (cs' := #[.int .i64 0, .int .i64 0]) hF hM (by kernel_rfl) rfl rfl (by kernel_rfl) (by kernel_rfl) rfl (by kernel_rfl) fun w hM => ?_)
                  refine sB 1 [(8, .int .i64 2)] hF (by kernel_rfl) fun a hF => ?_
                  refine wpList_nil ?_
                  refine hK22 _ _ ?_
                  refine wp_ret ?_
                  refine hR0 _ _ ?_
                  refine ret_of hF hM (.tmp rfl (.cell (i := 4) rfl rfl (v := .agg #[.int .i64 0, .int .i64 0]) (by kernel_rfl) (.tmp rfl (.nil)))) ?_
                  exact runPost_err (runS_bad4 (slopeB_of hz1) (trB_of hz3) (by omega) (args_l (all_bad (pr_some (l := l) (j := k) (by omega)) (by simp [okFrame, timeB]; omega)))) (by decide) ⟨rfl, hM.bel⟩
                · skip
                  replace hF := hF.c hF (i := 52) (v := .bool false) rfl (bF hz11)
                  replace hF := hF.c hF (i := 53) (v := .bool false) rfl (bF hz11)
                  refine cF hF (by kernel_rfl) (by kernel_rfl) ?_
                  refine wp_skip ?_
                  refine hK16 _ _ ?_
                  refine wp_region_lit ?_
                  refine wl (eP 55 (v0 := .int .i64 (IntKind.i64.wrap ((k : Int) + 1))) (v := .int .i64 ((k : Int) + 1)) hF (by kernel_rfl) (fun _ => by kernel_rfl) (wi (by omega)) fun a hF => ?_)
                  refine sB 1 [(41, .int .i64 ((k : Int) + 1))] hF (by kernel_rfl) fun a hF => ?_
                  refine wpList_nil ?_
                  refine hK13 _ _ ⟨(k + 1), ⟨((((((((Fr.nil hF).c hF (i := 40) rfl rfl).c hF (i := 39) rfl rfl).c hF (i := 7) rfl rfl).c hF (i := 3) rfl rfl).c hF (i := 2) rfl rfl).c hF (i := 1) rfl rfl).c hF (i := 41) rfl (vi (show ((k : Int) + 1 : Int) = ((k + 1) : Int) from by omega))), (hM.sub ((((Sub.nil.c (k := 4) rfl rfl).c (k := 3) rfl rfl).c (k := 2) rfl rfl).c (k := 1) rfl rfl)), (show ((k + 1) : Int) ≤ (l.length : Int) from by omega), (show Passed okFrame l (k + 1) from by exact passed_next (by assumption) (pr_some (by omega)) (by simp [okFrame, timeB]; omega))⟩, (show l.length - (k + 1) < l.length - k from by omega)⟩
              · skip
                replace hF := hF.c hF (i := 47) (v := .bool false) rfl (bF hz10)
                replace hF := hF.c hF (i := 48) (v := .bool true) rfl (nF hz10)
                replace hF := hF.c hF (i := 49) (v := .bool true) rfl (nF hz10)
                refine sB 4 [(50, undef), (51, undef), (52, undef), (53, .bool true)] hF (by kernel_rfl) fun a hF => ?_
                refine wpList_nil ?_
                refine hK18 _ _ ?_
                refine cT hF (by kernel_rfl) (by kernel_rfl) ?_
                refine wp_seq_k fun K23 hK23 => ?_
                refine wp_region_lit ?_
                refine sB 2 [(54, .agg #[.int .i64 0, .int .i64 0]), (6, .slice none 0 0)] hF (by kernel_rfl) fun a hF => ?_
                refine wl (sStore (i := 4) (off := 0) (cs' := #[.int .i64 0, .int .i64 0]) hF hM (by kernel_rfl) rfl rfl (by kernel_rfl) (by kernel_rfl) rfl (by kernel_rfl) fun w hM => ?_)
                refine sB 1 [(8, .int .i64 2)] hF (by kernel_rfl) fun a hF => ?_
                refine wpList_nil ?_
                refine hK23 _ _ ?_
                refine wp_ret ?_
                refine hR0 _ _ ?_
                refine ret_of hF hM (.tmp rfl (.cell (i := 4) rfl rfl (v := .agg #[.int .i64 0, .int .i64 0]) (by kernel_rfl) (.tmp rfl (.nil)))) ?_
                exact runPost_err (runS_bad4 (slopeB_of hz1) (trB_of hz3) (by omega) (args_l (all_bad (pr_some (l := l) (j := k) (by omega)) (by simp [okFrame, timeB]; omega)))) (by decide) ⟨rfl, hM.bel⟩
            · skip
              refine wp_region_lit ?_
              refine sB 1 [(3, .int .i64 (pr l k).1)] hF1 (by kernel_rfl) fun a1 hF1 => ?_
              refine wl (eP 4 (v0 := .bool (decide (0 ≤ (pr l k).1))) (v := .bool false) hF1 (by kernel_rfl) (fun _ => by kernel_rfl) (bF hz9) fun a1 hF1 => ?_)
              refine sB 5 [(5, .bool false), (6, undef), (7, undef), (8, .bool false), (2, .bool false)] hF1 (by kernel_rfl) fun a1 hF1 => ?_
              refine wpList_nil ?_
              refine hK21 _ _ ?_
              refine wp_ret ?_
              refine hR19 _ _ ?_
              refine ret_of hF1 hM (.tmp rfl (.nil)) ⟨_, rfl, ?_⟩
              intro a hF
              refine sB 6 [(48, .bool true), (49, .bool true), (50, undef), (51, undef), (52, undef), (53, .bool true)] hF (by kernel_rfl) fun a hF => ?_
              refine wpList_nil ?_
              refine hK18 _ _ ?_
              refine cT hF (by kernel_rfl) (by kernel_rfl) ?_
              refine wp_seq_k fun K24 hK24 => ?_
              refine wp_region_lit ?_
              refine sB 2 [(54, .agg #[.int .i64 0, .int .i64 0]), (6, .slice none 0 0)] hF (by kernel_rfl) fun a hF => ?_
              refine wl (sStore (i := 4) (off := 0) (cs' := #[.int .i64 0, .int .i64 0]) hF hM (by kernel_rfl) rfl rfl (by kernel_rfl) (by kernel_rfl) rfl (by kernel_rfl) fun w hM => ?_)
              refine sB 1 [(8, .int .i64 2)] hF (by kernel_rfl) fun a hF => ?_
              refine wpList_nil ?_
              refine hK24 _ _ ?_
              refine wp_ret ?_
              refine hR0 _ _ ?_
              refine ret_of hF hM (.tmp rfl (.cell (i := 4) rfl rfl (v := .agg #[.int .i64 0, .int .i64 0]) (by kernel_rfl) (.tmp rfl (.nil)))) ?_
              exact runPost_err (runS_bad4 (slopeB_of hz1) (trB_of hz3) (by omega) (args_l (all_bad (pr_some (l := l) (j := k) (by omega)) (by simp [okFrame, timeB]; omega)))) (by decide) ⟨rfl, hM.bel⟩
          · skip
            replace hF := hF.c hF (i := 42) (v := .bool false) rfl (bF hz8)
            refine cF hF (by kernel_rfl) (by kernel_rfl) ?_
            refine wp_exit ?_
            refine hK11 _ _ ?_
            refine wp_seq_k fun K25 hK25 => ?_
            refine wp_seq_k fun K26 hK26 => ?_
            have hall : l.all okFrame = true := passed_all (by assumption) (by omega)
            refine wp_region_lit ?_
            refine sB 3 [(56, .slice B free.length d), (57, .int .i64 (free.length : Int)), (58, .int .i64 0)] hF (by kernel_rfl) fun a hF => ?_
            refine wpList_nil ?_
            refine hK26 _ _ ?_
            refine wp_block ?_
            refine wp_loop_k (G := Nat) (fun gg a w => Fr 100 [(58, some (.int .i64 (gg : Int))), (1, some (.slice A l.length c)), (2, some (.slice B free.length d)), (3, some (.pointer (some ⟨bb1, 0, none⟩))), (7, some (.pointer (some ⟨bb2, 0, none⟩))), (56, some (.slice B free.length d)), (57, some (.int .i64 (free.length : Int)))] a ∧ Mem w0.heap.size w0 [(1, some (.ro A (flat2 l))), (2, some (.ro B (free.map (Value.int .i64)))), (3, some (.row bb1 23 #[.int .i64 r, .int .i64 p])), (4, some (.row bb2 40 #[.int .i64 0, .int .i64 0]))] w ∧ ((gg : Int) ≤ (free.length : Int)) ∧ (Passed timeB free gg)) (fun gg => free.length - gg) (0) ?_ ?_
            · refine ⟨((((((((Fr.nil hF).c hF (i := 57) rfl rfl).c hF (i := 56) rfl rfl).c hF (i := 7) rfl rfl).c hF (i := 3) rfl rfl).c hF (i := 2) rfl rfl).c hF (i := 1) rfl rfl).c hF (i := 58) rfl (vi (show (0 : Int) = (0 : Int) from by omega))), (hM.sub ((((Sub.nil.c (k := 4) rfl rfl).c (k := 3) rfl rfl).c (k := 2) rfl rfl).c (k := 1) rfl rfl)), (show (0 : Int) ≤ (free.length : Int) from by omega), (show Passed timeB free 0 from by exact passed_zero _ _)⟩
            · intro gg a w hI
              intro K27 hK27
              obtain ⟨j, rfl⟩ : ∃ x, x = gg := ⟨_, rfl⟩
              try dsimp only at hI hK27
              obtain ⟨hF, hM, hz12, hz13⟩ := hI
              refine wp_seq_k fun K28 hK28 => ?_
              refine wp_region_lit ?_
              refine sB 1 [(59, .bool (decide ((j : Int) < (free.length : Int))))] hF (by kernel_rfl) fun a hF => ?_
              refine wpList_nil ?_
              refine hK28 _ _ ?_
              refine wp_seq_k fun K29 hK29 => ?_
              by_cases hz14 : (j : Int) < (free.length : Int)
              · skip
                replace hF := hF.c hF (i := 59) (v := .bool true) rfl (bT hz14)
                refine cT hF (by kernel_rfl) (by kernel_rfl) ?_
                refine wp_skip ?_
                refine hK29 _ _ ?_
                refine wp_seq_k fun K30 hK30 => ?_
                refine wp_block ?_
                refine wp_seq_k fun K31 hK31 => ?_
                refine wp_region_lit ?_
                refine wl (eM 60 (v := .pointer (some (ea B (j)))) hF hM (by kernel_rfl) (yld_ix (kd := .i64) (e := 3) (len := free.length) (cap := d) (i := (j : Int)) (size := 1) (A := B) hF rfl (by kernel_rfl) (by kernel_rfl) (by kernel_rfl) (by kernel_rfl) (by kernel_rfl) (roK 2 rfl) (by omega) (by omega) (by rw [List.length_map]; omega)) fun a w hF hM => ?_)
                refine wl (eM 61 (v := .int .i64 (nt free j)) hF hM (by kernel_rfl) (yld_ro1 (A := B) (j := j) hF rfl (by kernel_rfl) (by kernel_rfl) (roK 2 rfl) (by kernel_rfl) (nt_at (by omega))) fun a w hF hM => ?_)
                refine sB 1 [(14, .int .i64 (nt free j))] hF (by kernel_rfl) fun a hF => ?_
                refine wpList_nil ?_
                refine hK31 _ _ ?_
                refine wp_seq_k fun K32 hK32 => ?_
                refine wp_region_lit ?_
                refine sB 1 [(62, .int .i64 (nt free j))] hF (by kernel_rfl) fun a hF => ?_
                refine wl (sC (f := 27) (args := #[.int .i64 (nt free j)]) hF (by kernel_rfl) rfl (by decide) (by kernel_rfl) (fun _ => by kernel_rfl) ?_)
                refine enterK 9 Try.func27 rfl rfl rfl ?_
                intro a1 hF1 QR33 hR33 hNR33
                refine wp_seq_k fun K34 hK34 => ?_
                refine wp_region_lit ?_
                refine sB 1 [(2, .bool false)] hF1 (by kernel_rfl) fun a1 hF1 => ?_
                refine wpList_nil ?_
                refine hK34 _ _ ?_
                refine wp_seq_k fun K35 hK35 => ?_
                by_cases hz15 : 0 ≤ nt free j
                · skip
                  refine wp_region_lit ?_
                  refine sB 1 [(3, .int .i64 (nt free j))] hF1 (by kernel_rfl) fun a1 hF1 => ?_
                  refine wl (eP 4 (v0 := .bool (decide (0 ≤ nt free j))) (v := .bool true) hF1 (by kernel_rfl) (fun _ => by kernel_rfl) (bT hz15) fun a1 hF1 => ?_)
                  refine sB 5 [(5, .bool true), (6, .int .i64 (nt free j)), (7, .bool (decide (nt free j ≤ 1073741824))), (8, .bool (decide (nt free j ≤ 1073741824))), (2, .bool (decide (nt free j ≤ 1073741824)))] hF1 (by kernel_rfl) fun a1 hF1 => ?_
                  refine wpList_nil ?_
                  refine hK35 _ _ ?_
                  refine wp_ret ?_
                  refine hR33 _ _ ?_
                  refine ret_of hF1 hM (.tmp rfl (.nil)) ⟨_, rfl, ?_⟩
                  intro a hF
                  refine sB 1 [(64, .bool (!decide (nt free j ≤ 1073741824)))] hF (by kernel_rfl) fun a hF => ?_
                  refine wpList_nil ?_
                  refine hK32 _ _ ?_
                  by_cases hz16 : nt free j ≤ 1073741824
                  · skip
                    replace hF := hF.c hF (i := 63) (v := .bool true) rfl (bT hz16)
                    replace hF := hF.c hF (i := 64) (v := .bool false) rfl (nT hz16)
                    refine cF hF (by kernel_rfl) (by kernel_rfl) ?_
                    refine wp_skip ?_
                    refine hK30 _ _ ?_
                    refine wp_region_lit ?_
                    refine wl (eP 66 (v0 := .int .i64 (IntKind.i64.wrap ((j : Int) + 1))) (v := .int .i64 ((j : Int) + 1)) hF (by kernel_rfl) (fun _ => by kernel_rfl) (wi (by omega)) fun a hF => ?_)
                    refine sB 1 [(58, .int .i64 ((j : Int) + 1))] hF (by kernel_rfl) fun a hF => ?_
                    refine wpList_nil ?_
                    refine hK27 _ _ ⟨(j + 1), ⟨((((((((Fr.nil hF).c hF (i := 57) rfl rfl).c hF (i := 56) rfl rfl).c hF (i := 7) rfl rfl).c hF (i := 3) rfl rfl).c hF (i := 2) rfl rfl).c hF (i := 1) rfl rfl).c hF (i := 58) rfl (vi (show ((j : Int) + 1 : Int) = ((j + 1) : Int) from by omega))), (hM.sub ((((Sub.nil.c (k := 4) rfl rfl).c (k := 3) rfl rfl).c (k := 2) rfl rfl).c (k := 1) rfl rfl)), (show ((j + 1) : Int) ≤ (free.length : Int) from by omega), (show Passed timeB free (j + 1) from by exact passed_next (by assumption) (nt_some (by omega)) (by simp [timeB]; omega))⟩, (show free.length - (j + 1) < free.length - j from by omega)⟩
                  · skip
                    replace hF := hF.c hF (i := 63) (v := .bool false) rfl (bF hz16)
                    replace hF := hF.c hF (i := 64) (v := .bool true) rfl (nF hz16)
                    refine cT hF (by kernel_rfl) (by kernel_rfl) ?_
                    refine wp_seq_k fun K36 hK36 => ?_
                    refine wp_region_lit ?_
                    refine sB 2 [(65, .agg #[.int .i64 0, .int .i64 0]), (6, .slice none 0 0)] hF (by kernel_rfl) fun a hF => ?_
                    refine wl (sStore (i := 4) (off := 0) (cs' := #[.int .i64 0, .int .i64 0]) hF hM (by kernel_rfl) rfl rfl (by kernel_rfl) (by kernel_rfl) rfl (by kernel_rfl) fun w hM => ?_)
                    refine sB 1 [(8, .int .i64 2)] hF (by kernel_rfl) fun a hF => ?_
                    refine wpList_nil ?_
                    refine hK36 _ _ ?_
                    refine wp_ret ?_
                    refine hR0 _ _ ?_
                    refine ret_of hF hM (.tmp rfl (.cell (i := 4) rfl rfl (v := .agg #[.int .i64 0, .int .i64 0]) (by kernel_rfl) (.tmp rfl (.nil)))) ?_
                    exact runPost_err (runS_bad4 (slopeB_of hz1) (trB_of hz3) (by omega) (args_f (all_bad (nt_some (l := free) (j := j) (by omega)) (by simp [timeB]; omega)))) (by decide) ⟨rfl, hM.bel⟩
                · skip
                  refine wp_region_lit ?_
                  refine sB 1 [(3, .int .i64 (nt free j))] hF1 (by kernel_rfl) fun a1 hF1 => ?_
                  refine wl (eP 4 (v0 := .bool (decide (0 ≤ nt free j))) (v := .bool false) hF1 (by kernel_rfl) (fun _ => by kernel_rfl) (bF hz15) fun a1 hF1 => ?_)
                  refine sB 5 [(5, .bool false), (6, undef), (7, undef), (8, .bool false), (2, .bool false)] hF1 (by kernel_rfl) fun a1 hF1 => ?_
                  refine wpList_nil ?_
                  refine hK35 _ _ ?_
                  refine wp_ret ?_
                  refine hR33 _ _ ?_
                  refine ret_of hF1 hM (.tmp rfl (.nil)) ⟨_, rfl, ?_⟩
                  intro a hF
                  refine sB 1 [(64, .bool true)] hF (by kernel_rfl) fun a hF => ?_
                  refine wpList_nil ?_
                  refine hK32 _ _ ?_
                  refine cT hF (by kernel_rfl) (by kernel_rfl) ?_
                  refine wp_seq_k fun K37 hK37 => ?_
                  refine wp_region_lit ?_
                  refine sB 2 [(65, .agg #[.int .i64 0, .int .i64 0]), (6, .slice none 0 0)] hF (by kernel_rfl) fun a hF => ?_
                  refine wl (sStore (i := 4) (off := 0) (cs' := #[.int .i64 0, .int .i64 0]) hF hM (by kernel_rfl) rfl rfl (by kernel_rfl) (by kernel_rfl) rfl (by kernel_rfl) fun w hM => ?_)
                  refine sB 1 [(8, .int .i64 2)] hF (by kernel_rfl) fun a hF => ?_
                  refine wpList_nil ?_
                  refine hK37 _ _ ?_
                  refine wp_ret ?_
                  refine hR0 _ _ ?_
                  refine ret_of hF hM (.tmp rfl (.cell (i := 4) rfl rfl (v := .agg #[.int .i64 0, .int .i64 0]) (by kernel_rfl) (.tmp rfl (.nil)))) ?_
                  exact runPost_err (runS_bad4 (slopeB_of hz1) (trB_of hz3) (by omega) (args_f (all_bad (nt_some (l := free) (j := j) (by omega)) (by simp [timeB]; omega)))) (by decide) ⟨rfl, hM.bel⟩
              · skip
                replace hF := hF.c hF (i := 59) (v := .bool false) rfl (bF hz14)
                refine cF hF (by kernel_rfl) (by kernel_rfl) ?_
                refine wp_exit ?_
                refine hK25 _ _ ?_
                refine wp_seq_k fun K38 hK38 => ?_
                have hfree : free.all timeB = true := passed_all (by assumption) (by omega)
                refine wp_region_lit ?_
                refine wl (eN 15 6 (t := 29) (fun b => .pointer (some ⟨b, 0, none⟩)) #[.slice none 0 0] hF hM (by kernel_rfl) (fun _ => by kernel_rfl) fun bb4 a w hF hM => ?_)
                refine wpList_nil ?_
                refine hK38 _ _ ?_
                refine wp_seq_k fun K39 hK39 => ?_
                refine wp_region_lit ?_
                refine wl (eN 16 7 (t := 40) (fun b => .pointer (some ⟨b, 0, none⟩)) #[.int .i64 0, .int .i64 0] hF hM (by kernel_rfl) (fun _ => by kernel_rfl) fun bb5 a w hF hM => ?_)
                refine wpList_nil ?_
                refine hK39 _ _ ?_
                refine wp_seq_k fun K40 hK40 => ?_
                refine wp_region_lit ?_
                refine sB 2 [(67, .func (.func 28) #[] #[.pointer (some ⟨bb4, 0, none⟩), .pointer (some ⟨bb5, 0, none⟩)]), (17, .func (.func 28) #[] #[.pointer (some ⟨bb4, 0, none⟩), .pointer (some ⟨bb5, 0, none⟩)])] hF (by kernel_rfl) fun a hF => ?_
                refine wpList_nil ?_
                refine hK40 _ _ ?_
                refine wp_seq_k fun K41 hK41 => ?_
                refine wp_seq_k fun K42 hK42 => ?_
                refine wp_region_lit ?_
                refine sB 3 [(68, .slice A l.length c), (69, .int .i64 (l.length : Int)), (70, .int .i64 0)] hF (by kernel_rfl) fun a hF => ?_
                refine wpList_nil ?_
                refine hK42 _ _ ?_
                refine wp_block ?_
                replace hM := hM.addNil 8 3 1
                refine wp_loop_k (G := Nat × Int × Int × List Int × Option Addr × Nat) (fun gg a w => Fr 100 [(70, some (.int .i64 (gg.1 : Int))), (2, some (.slice B free.length d)), (3, some (.pointer (some ⟨bb1, 0, none⟩))), (7, some (.pointer (some ⟨bb2, 0, none⟩))), (15, some (.pointer (some ⟨bb4, 0, none⟩))), (16, some (.pointer (some ⟨bb5, 0, none⟩))), (17, some (.func (.func 28) #[] #[.pointer (some ⟨bb4, 0, none⟩), .pointer (some ⟨bb5, 0, none⟩)])), (68, some (.slice A l.length c)), (69, some (.int .i64 (l.length : Int)))] a ∧ Mem w0.heap.size w0 [(1, some (.ro A (flat2 l))), (2, some (.ro B (free.map (Value.int .i64)))), (3, some (.row bb1 23 #[.int .i64 r, .int .i64 p])), (4, some (.row bb2 40 #[.int .i64 0, .int .i64 0])), (6, some (.row bb4 29 #[.slice gg.2.2.2.2.1 gg.1 gg.2.2.2.2.2])), (7, some (.row bb5 40 #[.int .i64 gg.2.1, .int .i64 gg.2.2.1])), (8, some (.own (.slice gg.2.2.2.2.1 gg.1 gg.2.2.2.2.2) 3 1 gg.1 (gg.2.2.2.1.map (Value.int .i64))))] w ∧ ((gg.1 : Int) ≤ (l.length : Int)) ∧ (RunAt r p l free gg.1 gg.2.2.2.1 gg.2.1 gg.2.2.1)) (fun gg => l.length - gg.1) (0, 0, 0, [], none, 0) ?_ ?_
                · refine ⟨((((((((((Fr.nil hF).c hF (i := 69) rfl rfl).c hF (i := 68) rfl rfl).c hF (i := 17) rfl rfl).c hF (i := 16) rfl rfl).c hF (i := 15) rfl rfl).c hF (i := 7) rfl rfl).c hF (i := 3) rfl rfl).c hF (i := 2) rfl rfl).c hF (i := 70) rfl (vi (show (0 : Int) = (0 : Int) from by omega))), (hM.sub (((((((Sub.nil.c (k := 8) rfl rfl).c (k := 7) rfl rfl).c (k := 6) rfl rfl).c (k := 4) rfl rfl).c (k := 3) rfl rfl).c (k := 2) rfl rfl).c (k := 1) rfl rfl)), (show (0 : Int) ≤ (l.length : Int) from by omega), (show RunAt r p l free 0 ([]) 0 0 from by exact runAt_zero r p l free)⟩
                · intro gg a w hI
                  intro K43 hK43
                  obtain ⟨m, aa, bl, got, G, gc⟩ := gg
                  try dsimp only at hI hK43
                  obtain ⟨hF, hM, hz17, hz18⟩ := hI
                  have hRA := hz18
                  have hstB := stateB_iff.1 hRA.2.1
                  refine wp_seq_k fun K44 hK44 => ?_
                  refine wp_region_lit ?_
                  refine sB 1 [(71, .bool (decide ((m : Int) < (l.length : Int))))] hF (by kernel_rfl) fun a hF => ?_
                  refine wpList_nil ?_
                  refine hK44 _ _ ?_
                  refine wp_seq_k fun K45 hK45 => ?_
                  by_cases hz19 : (m : Int) < (l.length : Int)
                  · skip
                    replace hF := hF.c hF (i := 71) (v := .bool true) rfl (bT hz19)
                    refine cT hF (by kernel_rfl) (by kernel_rfl) ?_
                    refine wp_skip ?_
                    refine hK45 _ _ ?_
                    refine wp_seq_k fun K46 hK46 => ?_
                    refine wp_block ?_
                    refine wp_seq_k fun K47 hK47 => ?_
                    have hfr := all_at hall (k := m) (by omega)
                    have hsz := trB_size (k := m) (t := (pr l m).1) (s := (pr l m).2) (trB_of hz3) (pr_some (by omega))
                    refine wp_region_lit ?_
                    refine sB 1 [(72, .int .i64 (m : Int))] hF (by kernel_rfl) fun a hF => ?_
                    refine wl (eM 73 (v := .pointer (some (ea A (m * 2)))) hF hM (by kernel_rfl) (yld_ix (kd := .i64) (e := 57) (len := l.length) (cap := c) (i := (m : Int)) (size := 2) (A := A) hF rfl (by kernel_rfl) (by kernel_rfl) (by kernel_rfl) (by kernel_rfl) (by kernel_rfl) (roK 1 rfl) (by omega) (by omega) (by rw [flat2_length]; omega)) fun a w hF hM => ?_)
                    refine wl (eM 74 (v := .agg #[.int .i64 (pr l m).1, .int .i64 (pr l m).2]) hF hM (by kernel_rfl) (yld_roM (A := A) (j := m * 2) (us := [.int .i64 (pr l m).1, .int .i64 (pr l m).2]) hF rfl (by kernel_rfl) (by kernel_rfl) (roK 1 rfl) (by kernel_rfl) rfl (pr_both (k := m) (by omega) (by omega))) fun a w hF hM => ?_)
                    refine wl (eN 19 9 (t := 57) (fun b => .pointer (some ⟨b, 0, none⟩)) #[.int .i64 0, .int .i64 0] hF hM (by kernel_rfl) (fun _ => by kernel_rfl) fun bb6 a w hF hM => ?_)
                    refine sB 1 [(18, .int .i64 (m : Int))] hF (by kernel_rfl) fun a hF => ?_
                    refine wl (sStore (i := 9) (off := 0) (cs' := #[.int .i64 (pr l m).1, .int .i64 (pr l m).2]) hF hM (by kernel_rfl) rfl rfl (by kernel_rfl) (by kernel_rfl) rfl (by kernel_rfl) fun w hM => ?_)
                    refine wpList_nil ?_
                    refine hK47 _ _ ?_
                    refine wp_seq_k fun K48 hK48 => ?_
                    refine wp_region_lit ?_
                    refine sB 1 [(20, .int .i64 0)] hF (by kernel_rfl) fun a hF => ?_
                    refine wpList_nil ?_
                    refine hK48 _ _ ?_
                    refine wp_seq_k fun K49 hK49 => ?_
                    refine wp_seq_k fun K50 hK50 => ?_
                    refine wp_region_lit ?_
                    refine sB 4 [(75, .int .i64 (m : Int)), (76, .slice B free.length d), (77, .int .i64 (free.length : Int)), (78, .bool (decide ((m : Int) < (free.length : Int))))] hF (by kernel_rfl) fun a hF => ?_
                    refine wpList_nil ?_
                    refine hK50 _ _ ?_
                    by_cases hz20 : (m : Int) < (free.length : Int)
                    · skip
                      replace hF := hF.c hF (i := 78) (v := .bool true) rfl (bT hz20)
                      refine cT hF (by kernel_rfl) (by kernel_rfl) ?_
                      have hfn := all_nt hfree (k := m) (by omega)
                      refine wp_region_lit ?_
                      refine sB 2 [(79, .slice B free.length d), (80, .int .i64 (m : Int))] hF (by kernel_rfl) fun a hF => ?_
                      refine wl (eM 81 (v := .pointer (some (ea B (m)))) hF hM (by kernel_rfl) (yld_ix (kd := .i64) (e := 3) (len := free.length) (cap := d) (i := (m : Int)) (size := 1) (A := B) hF rfl (by kernel_rfl) (by kernel_rfl) (by kernel_rfl) (by kernel_rfl) (by kernel_rfl) (roK 2 rfl) (by omega) (by omega) (by rw [List.length_map]; omega)) fun a w hF hM => ?_)
                      refine wl (eM 82 (v := .int .i64 (nt free m)) hF hM (by kernel_rfl) (yld_ro1 (A := B) (j := m) hF rfl (by kernel_rfl) (by kernel_rfl) (roK 2 rfl) (by kernel_rfl) (nt_at (by omega))) fun a w hF hM => ?_)
                      refine sB 1 [(20, .int .i64 (nt free m))] hF (by kernel_rfl) fun a hF => ?_
                      refine wpList_nil ?_
                      refine hK49 _ _ ?_
                      refine wp_seq_k fun K51 hK51 => ?_
                      refine wp_region_lit ?_
                      refine sB 1 [(83, .func (.func 28) #[] #[.pointer (some ⟨bb4, 0, none⟩), .pointer (some ⟨bb5, 0, none⟩)])] hF (by kernel_rfl) fun a hF => ?_
                      refine wl (eL 84 3 0 (v := .agg #[.int .i64 r, .int .i64 p]) hF hM (by kernel_rfl) rfl rfl (by kernel_rfl) (by kernel_rfl) fun a w hF hM => ?_)
                      refine wl (eL 85 7 0 (v := .agg #[.int .i64 aa, .int .i64 bl]) hF hM (by kernel_rfl) rfl rfl (by kernel_rfl) (by kernel_rfl) fun a w hF hM => ?_)
                      refine sB 1 [(86, .pointer (some ⟨bb6, 0, none⟩))] hF (by kernel_rfl) fun a hF => ?_
                      refine wl (eL 87 9 0 (v := .int .i64 (pr l m).1) hF hM (by kernel_rfl) rfl rfl (by kernel_rfl) (by kernel_rfl) fun a w hF hM => ?_)
                      refine sB 2 [(88, .int .i64 (nt free m)), (89, .pointer (some ⟨bb6, 1, none⟩))] hF (by kernel_rfl) fun a hF => ?_
                      refine wl (eL 90 9 1 (v := .int .i64 (pr l m).2) hF hM (by kernel_rfl) rfl rfl (by kernel_rfl) (by kernel_rfl) fun a w hF hM => ?_)
                      refine wl (sC (f := 29) (args := #[.agg #[.int .i64 r, .int .i64 p], .agg #[.int .i64 aa, .int .i64 bl], .int .i64 (pr l m).1, .int .i64 (nt free m), .int .i64 (pr l m).2]) hF (by kernel_rfl) rfl (by decide) (by kernel_rfl) (fun _ => by kernel_rfl) ?_)
                      refine enterK 38 Try.func29 rfl rfl rfl ?_
                      intro a1 hF1 QR52 hR52 hNR52
                      refine wp_seq_k fun K53 hK53 => ?_
                      refine wp_region_lit ?_
                      refine wl (eN 5 10 (t := 23) (fun b => .pointer (some ⟨b, 0, none⟩)) #[.int .i64 r, .int .i64 p] hF1 hM (by kernel_rfl) (fun _ => by kernel_rfl) fun bb7 a1 w hF1 hM => ?_)
                      refine wl (eN 6 11 (t := 40) (fun b => .pointer (some ⟨b, 0, none⟩)) #[.int .i64 aa, .int .i64 bl] hF1 hM (by kernel_rfl) (fun _ => by kernel_rfl) fun bb8 a1 w hF1 hM => ?_)
                      refine sB 1 [(10, .int .i64 0)] hF1 (by kernel_rfl) fun a1 hF1 => ?_
                      refine wl (eN 11 12 (t := 40) (fun b => .pointer (some ⟨b, 0, none⟩)) #[.int .i64 0, .int .i64 0] hF1 hM (by kernel_rfl) (fun _ => by kernel_rfl) fun bb9 a1 w hF1 hM => ?_)
                      refine wpList_nil ?_
                      refine hK53 _ _ ?_
                      refine wp_seq_k fun K54 hK54 => ?_
                      refine wp_region_lit ?_
                      refine wl (eL 17 10 0 (v := .agg #[.int .i64 r, .int .i64 p]) hF1 hM (by kernel_rfl) rfl rfl (by kernel_rfl) (by kernel_rfl) fun a1 w hF1 hM => ?_)
                      refine wl (eL 18 11 0 (v := .agg #[.int .i64 aa, .int .i64 bl]) hF1 hM (by kernel_rfl) rfl rfl (by kernel_rfl) (by kernel_rfl) fun a1 w hF1 hM => ?_)
                      refine sB 1 [(19, .agg #[.int .i64 r, .int .i64 p, .int .i64 aa, .int .i64 bl])] hF1 (by kernel_rfl) fun a1 hF1 => ?_
                      refine wl (eN 12 13 (t := 83) (fun b => .pointer (some ⟨b, 0, none⟩)) #[.int .i64 0, .int .i64 0, .int .i64 0, .int .i64 0] hF1 hM (by kernel_rfl) (fun _ => by kernel_rfl) fun bb10 a1 w hF1 hM => ?_)
                      refine wl (sStore (i := 13) (off := 0) (cs' := #[.int .i64 r, .int .i64 p, .int .i64 aa, .int .i64 bl]) hF1 hM (by kernel_rfl) rfl rfl (by kernel_rfl) (by kernel_rfl) rfl (by kernel_rfl) fun w hM => ?_)
                      refine wpList_nil ?_
                      refine hK54 _ _ ?_
                      refine wp_seq_k fun K55 hK55 => ?_
                      refine wp_region_lit ?_
                      refine sB 6 [(20, .func (.func 38) #[.pointer (some ⟨bb10, 0, none⟩)] #[]), (21, .func (.func 39) #[.pointer (some ⟨bb10, 0, none⟩)] #[]), (22, .func (.func 40) #[.pointer (some ⟨bb10, 0, none⟩)] #[]), (13, .func (.func 38) #[.pointer (some ⟨bb10, 0, none⟩)] #[]), (14, .func (.func 39) #[.pointer (some ⟨bb10, 0, none⟩)] #[]), (15, .func (.func 40) #[.pointer (some ⟨bb10, 0, none⟩)] #[])] hF1 (by kernel_rfl) fun a1 hF1 => ?_
                      refine wpList_nil ?_
                      refine hK55 _ _ ?_
                      refine wp_seq_k fun K56 hK56 => ?_
                      refine wp_region_lit ?_
                      refine sB 2 [(23, .func (.func 38) #[.pointer (some ⟨bb10, 0, none⟩)] #[]), (24, .int .i64 (pr l m).1)] hF1 (by kernel_rfl) fun a1 hF1 => ?_
                      refine wl (sC (f := 38) (args := #[.pointer (some ⟨bb10, 0, none⟩), .int .i64 (pr l m).1]) hF1 (by kernel_rfl) rfl (by decide) (by kernel_rfl) (fun _ => by kernel_rfl) ?_)
                      refine enterK 40 Try.func38 rfl rfl rfl ?_
                      intro a2 hF2 QR57 hR57 hNR57
                      refine wp_seq_k fun K58 hK58 => ?_
                      refine wp_seq_k fun K59 hK59 => ?_
                      refine wp_region_lit ?_
                      refine sB 5 [(4, .int .i64 (pr l m).1), (5, .pointer (some ⟨bb10, 0, none⟩)), (6, .pointer (some ⟨bb10, 0, none⟩)), (7, .pointer (some ⟨bb10, 2, none⟩)), (8, .pointer (some ⟨bb10, 2, none⟩))] hF2 (by kernel_rfl) fun a2 hF2 => ?_
                      refine wl (eL 9 13 2 (v := .int .i64 aa) hF2 hM (by kernel_rfl) rfl rfl (by kernel_rfl) (by kernel_rfl) fun a2 w hF2 hM => ?_)
                      refine sB 1 [(10, .bool (decide ((pr l m).1 ≤ aa)))] hF2 (by kernel_rfl) fun a2 hF2 => ?_
                      refine wpList_nil ?_
                      refine hK59 _ _ ?_
                      by_cases hz21 : (pr l m).1 ≤ aa
                      · skip
                        replace hF2 := hF2.c hF2 (i := 10) (v := .bool true) rfl (bT hz21)
                        refine cT hF2 (by kernel_rfl) (by kernel_rfl) ?_
                        refine wp_ret ?_
                        refine hR57 _ _ ?_
                        refine ret_of hF2 hM (.nil) ⟨_, rfl, ?_⟩
                        intro a1 hF1
                        refine wpList_nil ?_
                        refine hK56 _ _ ?_
                        refine wp_seq_k fun K60 hK60 => ?_
                        refine wp_region_lit ?_
                        refine sB 1 [(26, .int .i64 (nt free m))] hF1 (by kernel_rfl) fun a1 hF1 => ?_
                        refine wl (sC (f := 41) (args := #[.pointer (some ⟨bb10, 0, none⟩)]) hF1 (by kernel_rfl) rfl (by decide) (by kernel_rfl) (fun _ => by kernel_rfl) ?_)
                        refine enterK 31 Try.func41 rfl rfl rfl ?_
                        intro a2 hF2 QR61 hR61 hNR61
                        refine wp_seq_k fun K62 hK62 => ?_
                        refine wp_region_lit ?_
                        refine sB 1 [(2, .int .i64 0)] hF2 (by kernel_rfl) fun a2 hF2 => ?_
                        refine wpList_nil ?_
                        refine hK62 _ _ ?_
                        refine wp_seq_k fun K63 hK63 => ?_
                        refine wp_region_lit ?_
                        refine sB 4 [(4, .pointer (some ⟨bb10, 0, none⟩)), (5, .pointer (some ⟨bb10, 0, none⟩)), (6, .pointer (some ⟨bb10, 2, none⟩)), (7, .pointer (some ⟨bb10, 3, none⟩))] hF2 (by kernel_rfl) fun a2 hF2 => ?_
                        refine wl (eL 8 13 3 (v := .int .i64 bl) hF2 hM (by kernel_rfl) rfl rfl (by kernel_rfl) (by kernel_rfl) fun a2 w hF2 hM => ?_)
                        refine wl (eP 9 (v0 := .int .i64 (IntKind.i64.wrap (0 - bl))) (v := .int .i64 (-bl)) hF2 (by kernel_rfl) (fun _ => by kernel_rfl) (vi (by rw [Int.zero_sub]; exact (w64 (by omega)))) fun a2 hF2 => ?_)
                        refine wl (eP 10 (v0 := .int .i64 (if -bl > 0 then -bl else 0)) (v := .int .i64 (max 0 (-bl))) hF2 (by kernel_rfl) (fun _ => by kernel_rfl) (vi (max_if _ _)) fun a2 hF2 => ?_)
                        refine sB 1 [(3, .int .i64 (max 0 (-bl)))] hF2 (by kernel_rfl) fun a2 hF2 => ?_
                        refine wpList_nil ?_
                        refine hK63 _ _ ?_
                        refine wp_seq_k fun K64 hK64 => ?_
                        refine rQ hM (by kernel_rfl) (by kernel_rfl) ?_
                        refine eQ 11 (v0 := .pointer (some ⟨bb10, 0, none⟩)) (v := .pointer (some ⟨bb10, 0, none⟩)) hF2 (by kernel_rfl) (fun _ => by kernel_rfl) rfl fun a2 hF2 => ?_
                        refine eQ 12 (v0 := .pointer (some ⟨bb10, 0, none⟩)) (v := .pointer (some ⟨bb10, 0, none⟩)) hF2 (by kernel_rfl) (fun _ => by kernel_rfl) rfl fun a2 hF2 => ?_
                        refine eQ 13 (v0 := .pointer (some ⟨bb10, 2, none⟩)) (v := .pointer (some ⟨bb10, 2, none⟩)) hF2 (by kernel_rfl) (fun _ => by kernel_rfl) rfl fun a2 hF2 => ?_
                        refine eQ 14 (v0 := .pointer (some ⟨bb10, 2, none⟩)) (v := .pointer (some ⟨bb10, 2, none⟩)) hF2 (by kernel_rfl) (fun _ => by kernel_rfl) rfl fun a2 hF2 => ?_
                        refine eQL 15 13 2 (v := .int .i64 aa) hF2 (by kernel_rfl) rfl rfl (by kernel_rfl) (by kernel_rfl) fun a2 hF2 => ?_
                        refine eQ 16 (v0 := .int .i64 (max 0 (-bl))) (v := .int .i64 (max 0 (-bl))) hF2 (by kernel_rfl) (fun _ => by kernel_rfl) rfl fun a2 hF2 => ?_
                        refine eQ 17 (v0 := .pointer (some ⟨bb10, 0, none⟩)) (v := .pointer (some ⟨bb10, 0, none⟩)) hF2 (by kernel_rfl) (fun _ => by kernel_rfl) rfl fun a2 hF2 => ?_
                        refine eQ 18 (v0 := .pointer (some ⟨bb10, 0, none⟩)) (v := .pointer (some ⟨bb10, 0, none⟩)) hF2 (by kernel_rfl) (fun _ => by kernel_rfl) rfl fun a2 hF2 => ?_
                        refine eQ 19 (v0 := .pointer (some ⟨bb10, 0, none⟩)) (v := .pointer (some ⟨bb10, 0, none⟩)) hF2 (by kernel_rfl) (fun _ => by kernel_rfl) rfl fun a2 hF2 => ?_
                        refine eQ 20 (v0 := .pointer (some ⟨bb10, 0, none⟩)) (v := .pointer (some ⟨bb10, 0, none⟩)) hF2 (by kernel_rfl) (fun _ => by kernel_rfl) rfl fun a2 hF2 => ?_
                        refine eQL 21 13 0 (v := .int .i64 r) hF2 (by kernel_rfl) rfl rfl (by kernel_rfl) (by kernel_rfl) fun a2 hF2 => ?_
                        refine eQ 22 (v0 := .int .i64 (IntKind.i64.wrap (max 0 (-bl) + r))) (v := .int .i64 (max 0 (-bl) + r)) hF2 (by kernel_rfl) (fun _ => by kernel_rfl) (wi (by omega)) fun a2 hF2 => ?_
                        refine eQ 23 (v0 := .int .i64 (IntKind.i64.wrap (max 0 (-bl) + r - 1))) (v := .int .i64 (max 0 (-bl) + r - 1)) hF2 (by kernel_rfl) (fun _ => by kernel_rfl) (wi (by omega)) fun a2 hF2 => ?_
                        refine eQ 24 (v0 := .pointer (some ⟨bb10, 0, none⟩)) (v := .pointer (some ⟨bb10, 0, none⟩)) hF2 (by kernel_rfl) (fun _ => by kernel_rfl) rfl fun a2 hF2 => ?_
                        refine eQ 25 (v0 := .pointer (some ⟨bb10, 0, none⟩)) (v := .pointer (some ⟨bb10, 0, none⟩)) hF2 (by kernel_rfl) (fun _ => by kernel_rfl) rfl fun a2 hF2 => ?_
                        refine eQ 26 (v0 := .pointer (some ⟨bb10, 0, none⟩)) (v := .pointer (some ⟨bb10, 0, none⟩)) hF2 (by kernel_rfl) (fun _ => by kernel_rfl) rfl fun a2 hF2 => ?_
                        refine eQ 27 (v0 := .pointer (some ⟨bb10, 0, none⟩)) (v := .pointer (some ⟨bb10, 0, none⟩)) hF2 (by kernel_rfl) (fun _ => by kernel_rfl) rfl fun a2 hF2 => ?_
                        refine eQL 28 13 0 (v := .int .i64 r) hF2 (by kernel_rfl) rfl rfl (by kernel_rfl) (by kernel_rfl) fun a2 hF2 => ?_
                        refine eQ2 29 (v := .int .i64 ((max 0 (-bl) + r - 1) / r)) hF2 (by kernel_rfl) (yld_quo (max 0 (-bl) + r - 1) r hF2 rfl (by kernel_rfl) (by kernel_rfl) (by kernel_rfl) (by omega) (qpos_i64 (by omega) (by omega) (by omega))) fun a2 hF2 => ?_
                        have := ediv_le_self_of (p := max 0 (-bl) + r - 1) (q := r) (by omega) (by omega)
                        refine eQ 30 (v0 := .int .i64 (IntKind.i64.wrap (aa + (max 0 (-bl) + r - 1) / r))) (v := .int .i64 (aa + (max 0 (-bl) + r - 1) / r)) hF2 (by kernel_rfl) (fun _ => by kernel_rfl) (wi (by omega)) fun a2 hF2 => ?_
                        refine eQ 2 (v0 := .int .i64 (aa + (max 0 (-bl) + r - 1) / r)) (v := .int .i64 (aa + (max 0 (-bl) + r - 1) / r)) hF2 (by kernel_rfl) (fun _ => by kernel_rfl) rfl fun a2 hF2 => ?_
                        refine wpQuiet_nil ?_
                        intro w hM
                        refine hK64 _ _ ?_
                        refine wp_ret ?_
                        refine hR61 _ _ ?_
                        refine ret_of hF2 hM (.tmp rfl (.nil)) ⟨_, rfl, ?_⟩
                        intro a1 hF1
                        refine wl (eP 28 (v0 := .int .i64 (if aa + (max 0 (-bl) + r - 1) / r > nt free m then aa + (max 0 (-bl) + r - 1) / r else nt free m)) (v := .int .i64 (max (nt free m) (aa + (max 0 (-bl) + r - 1) / r))) hF1 (by kernel_rfl) (fun _ => by kernel_rfl) (vi (max_if _ _)) fun a1 hF1 => ?_)
                        refine sB 1 [(16, .int .i64 (max (nt free m) (aa + (max 0 (-bl) + r - 1) / r)))] hF1 (by kernel_rfl) fun a1 hF1 => ?_
                        refine wpList_nil ?_
                        refine hK60 _ _ ?_
                        refine wp_seq_k fun K65 hK65 => ?_
                        refine wp_region_lit ?_
                        refine sB 2 [(29, .func (.func 39) #[.pointer (some ⟨bb10, 0, none⟩)] #[]), (30, .int .i64 (max (nt free m) (aa + (max 0 (-bl) + r - 1) / r)))] hF1 (by kernel_rfl) fun a1 hF1 => ?_
                        refine wl (sC (f := 39) (args := #[.pointer (some ⟨bb10, 0, none⟩), .int .i64 (max (nt free m) (aa + (max 0 (-bl) + r - 1) / r))]) hF1 (by kernel_rfl) rfl (by decide) (by kernel_rfl) (fun _ => by kernel_rfl) ?_)
                        refine enterK 31 Try.func39 rfl rfl rfl ?_
                        intro a2 hF2 QR66 hR66 hNR66
                        refine wp_seq_k fun K67 hK67 => ?_
                        refine rT 22 (by kernel_rfl) (by kernel_rfl) hM.drew ?_
                        refine eQ 4 (v0 := .pointer (some ⟨bb10, 0, none⟩)) (v := .pointer (some ⟨bb10, 0, none⟩)) hF2 (by kernel_rfl) (fun _ => by kernel_rfl) rfl fun a2 hF2 => ?_
                        refine eQ 5 (v0 := .pointer (some ⟨bb10, 0, none⟩)) (v := .pointer (some ⟨bb10, 0, none⟩)) hF2 (by kernel_rfl) (fun _ => by kernel_rfl) rfl fun a2 hF2 => ?_
                        refine eQ 6 (v0 := .pointer (some ⟨bb10, 2, none⟩)) (v := .pointer (some ⟨bb10, 2, none⟩)) hF2 (by kernel_rfl) (fun _ => by kernel_rfl) rfl fun a2 hF2 => ?_
                        refine eQ 7 (v0 := .pointer (some ⟨bb10, 3, none⟩)) (v := .pointer (some ⟨bb10, 3, none⟩)) hF2 (by kernel_rfl) (fun _ => by kernel_rfl) rfl fun a2 hF2 => ?_
                        refine eQL 8 13 3 (v := .int .i64 bl) hF2 (by kernel_rfl) rfl rfl (by kernel_rfl) (by kernel_rfl) fun a2 hF2 => ?_
                        refine eQ 9 (v0 := .pointer (some ⟨bb10, 0, none⟩)) (v := .pointer (some ⟨bb10, 0, none⟩)) hF2 (by kernel_rfl) (fun _ => by kernel_rfl) rfl fun a2 hF2 => ?_
                        refine eQ 10 (v0 := .pointer (some ⟨bb10, 0, none⟩)) (v := .pointer (some ⟨bb10, 0, none⟩)) hF2 (by kernel_rfl) (fun _ => by kernel_rfl) rfl fun a2 hF2 => ?_
                        refine eQ 11 (v0 := .pointer (some ⟨bb10, 0, none⟩)) (v := .pointer (some ⟨bb10, 0, none⟩)) hF2 (by kernel_rfl) (fun _ => by kernel_rfl) rfl fun a2 hF2 => ?_
                        refine eQ 12 (v0 := .pointer (some ⟨bb10, 0, none⟩)) (v := .pointer (some ⟨bb10, 0, none⟩)) hF2 (by kernel_rfl) (fun _ => by kernel_rfl) rfl fun a2 hF2 => ?_
                        refine eQL 13 13 0 (v := .int .i64 r) hF2 (by kernel_rfl) rfl rfl (by kernel_rfl) (by kernel_rfl) fun a2 hF2 => ?_
                        refine eQ 14 (v0 := .int .i64 (max (nt free m) (aa + (max 0 (-bl) + r - 1) / r))) (v := .int .i64 (max (nt free m) (aa + (max 0 (-bl) + r - 1) / r))) hF2 (by kernel_rfl) (fun _ => by kernel_rfl) rfl fun a2 hF2 => ?_
                        refine eQ 15 (v0 := .pointer (some ⟨bb10, 0, none⟩)) (v := .pointer (some ⟨bb10, 0, none⟩)) hF2 (by kernel_rfl) (fun _ => by kernel_rfl) rfl fun a2 hF2 => ?_
                        refine eQ 16 (v0 := .pointer (some ⟨bb10, 0, none⟩)) (v := .pointer (some ⟨bb10, 0, none⟩)) hF2 (by kernel_rfl) (fun _ => by kernel_rfl) rfl fun a2 hF2 => ?_
                        refine eQ 17 (v0 := .pointer (some ⟨bb10, 2, none⟩)) (v := .pointer (some ⟨bb10, 2, none⟩)) hF2 (by kernel_rfl) (fun _ => by kernel_rfl) rfl fun a2 hF2 => ?_
                        refine eQ 18 (v0 := .pointer (some ⟨bb10, 2, none⟩)) (v := .pointer (some ⟨bb10, 2, none⟩)) hF2 (by kernel_rfl) (fun _ => by kernel_rfl) rfl fun a2 hF2 => ?_
                        refine eQL 19 13 2 (v := .int .i64 aa) hF2 (by kernel_rfl) rfl rfl (by kernel_rfl) (by kernel_rfl) fun a2 hF2 => ?_
                        refine eQ 20 (v0 := .int .i64 (IntKind.i64.wrap (max (nt free m) (aa + (max 0 (-bl) + r - 1) / r) - aa))) (v := .int .i64 (max (nt free m) (aa + (max 0 (-bl) + r - 1) / r) - aa)) hF2 (by kernel_rfl) (fun _ => by kernel_rfl) (wi (by omega)) fun a2 hF2 => ?_
                        have hz22 : 0 ≤ r * (max (nt free m) (aa + (max 0 (-bl) + r - 1) / r) - aa) ∧ r * (max (nt free m) (aa + (max 0 (-bl) + r - 1) / r) - aa) ≤ 2822443654709250 := mul_bd (1) (1048575) (0) (2691694590) (by omega) (by omega) (by omega) (by omega) (by decide)
                        refine eQ 21 (v0 := .int .i64 (IntKind.i64.wrap (r * (max (nt free m) (aa + (max 0 (-bl) + r - 1) / r) - aa)))) (v := .int .i64 (r * (max (nt free m) (aa + (max 0 (-bl) + r - 1) / r) - aa))) hF2 (by kernel_rfl) (fun _ => by kernel_rfl) (wi (by omega)) fun a2 hF2 => ?_
                        refine eQ 22 (v0 := .int .i64 (IntKind.i64.wrap (bl + r * (max (nt free m) (aa + (max 0 (-bl) + r - 1) / r) - aa)))) (v := .int .i64 (bl + r * (max (nt free m) (aa + (max 0 (-bl) + r - 1) / r) - aa))) hF2 (by kernel_rfl) (fun _ => by kernel_rfl) (wi (by omega)) fun a2 hF2 => ?_
                        refine eQ 23 (v0 := .pointer (some ⟨bb10, 0, none⟩)) (v := .pointer (some ⟨bb10, 0, none⟩)) hF2 (by kernel_rfl) (fun _ => by kernel_rfl) rfl fun a2 hF2 => ?_
                        refine eQ 24 (v0 := .pointer (some ⟨bb10, 2, none⟩)) (v := .pointer (some ⟨bb10, 2, none⟩)) hF2 (by kernel_rfl) (fun _ => by kernel_rfl) rfl fun a2 hF2 => ?_
                        refine eQ 25 (v0 := .pointer (some ⟨bb10, 3, none⟩)) (v := .pointer (some ⟨bb10, 3, none⟩)) hF2 (by kernel_rfl) (fun _ => by kernel_rfl) rfl fun a2 hF2 => ?_
                        refine wpQuiet_nil ?_
                        intro w hM
                        refine wl (sStore (i := 13) (off := 3) (cs' := #[.int .i64 r, .int .i64 p, .int .i64 aa, .int .i64 (bl + r * (max (nt free m) (aa + (max 0 (-bl) + r - 1) / r) - aa))]) hF2 hM (by kernel_rfl) rfl rfl (by kernel_rfl) (by kernel_rfl) rfl (by kernel_rfl) fun w hM => ?_)
                        refine wpList_nil ?_
                        refine hK67 _ _ ?_
                        refine wp_region_lit ?_
                        refine sB 5 [(26, .pointer (some ⟨bb10, 0, none⟩)), (27, .int .i64 (max (nt free m) (aa + (max 0 (-bl) + r - 1) / r))), (28, .pointer (some ⟨bb10, 0, none⟩)), (29, .pointer (some ⟨bb10, 2, none⟩)), (30, .pointer (some ⟨bb10, 2, none⟩))] hF2 (by kernel_rfl) fun a2 hF2 => ?_
                        refine wl (sStore (i := 13) (off := 2) (cs' := #[.int .i64 r, .int .i64 p, .int .i64 (max (nt free m) (aa + (max 0 (-bl) + r - 1) / r)), .int .i64 (bl + r * (max (nt free m) (aa + (max 0 (-bl) + r - 1) / r) - aa))]) hF2 hM (by kernel_rfl) rfl rfl (by kernel_rfl) (by kernel_rfl) rfl (by kernel_rfl) fun w hM => ?_)
                        refine wpList_nil ?_
                        refine hNR66 _ _ ?_
                        refine ret_ofN hF2 hM (.nil) ⟨_, rfl, ?_⟩
                        intro a1 hF1
                        refine wpList_nil ?_
                        refine hK65 _ _ ?_
                        refine wp_seq_k fun K68 hK68 => ?_
                        refine wp_region_lit ?_
                        refine sB 2 [(32, .func (.func 40) #[.pointer (some ⟨bb10, 0, none⟩)] #[]), (33, .int .i64 (pr l m).2)] hF1 (by kernel_rfl) fun a1 hF1 => ?_
                        refine wl (sC (f := 40) (args := #[.pointer (some ⟨bb10, 0, none⟩), .int .i64 (pr l m).2]) hF1 (by kernel_rfl) rfl (by decide) (by kernel_rfl) (fun _ => by kernel_rfl) ?_)
                        refine enterK 43 Try.func40 rfl rfl rfl ?_
                        intro a2 hF2 QR69 hR69 hNR69
                        refine wp_seq_k fun K70 hK70 => ?_
                        refine rT 23 (by kernel_rfl) (by kernel_rfl) hM.drew ?_
                        refine eQ 4 (v0 := .pointer (some ⟨bb10, 0, none⟩)) (v := .pointer (some ⟨bb10, 0, none⟩)) hF2 (by kernel_rfl) (fun _ => by kernel_rfl) rfl fun a2 hF2 => ?_
                        refine eQ 5 (v0 := .pointer (some ⟨bb10, 0, none⟩)) (v := .pointer (some ⟨bb10, 0, none⟩)) hF2 (by kernel_rfl) (fun _ => by kernel_rfl) rfl fun a2 hF2 => ?_
                        refine eQ 6 (v0 := .pointer (some ⟨bb10, 2, none⟩)) (v := .pointer (some ⟨bb10, 2, none⟩)) hF2 (by kernel_rfl) (fun _ => by kernel_rfl) rfl fun a2 hF2 => ?_
                        refine eQ 7 (v0 := .pointer (some ⟨bb10, 3, none⟩)) (v := .pointer (some ⟨bb10, 3, none⟩)) hF2 (by kernel_rfl) (fun _ => by kernel_rfl) rfl fun a2 hF2 => ?_
                        refine eQL 8 13 3 (v := .int .i64 (bl + r * (max (nt free m) (aa + (max 0 (-bl) + r - 1) / r) - aa))) hF2 (by kernel_rfl) rfl rfl (by kernel_rfl) (by kernel_rfl) fun a2 hF2 => ?_
                        refine eQ 9 (v0 := .pointer (some ⟨bb10, 0, none⟩)) (v := .pointer (some ⟨bb10, 0, none⟩)) hF2 (by kernel_rfl) (fun _ => by kernel_rfl) rfl fun a2 hF2 => ?_
                        refine eQ 10 (v0 := .pointer (some ⟨bb10, 0, none⟩)) (v := .pointer (some ⟨bb10, 0, none⟩)) hF2 (by kernel_rfl) (fun _ => by kernel_rfl) rfl fun a2 hF2 => ?_
                        refine eQ 11 (v0 := .pointer (some ⟨bb10, 0, none⟩)) (v := .pointer (some ⟨bb10, 0, none⟩)) hF2 (by kernel_rfl) (fun _ => by kernel_rfl) rfl fun a2 hF2 => ?_
                        refine eQ 12 (v0 := .pointer (some ⟨bb10, 0, none⟩)) (v := .pointer (some ⟨bb10, 0, none⟩)) hF2 (by kernel_rfl) (fun _ => by kernel_rfl) rfl fun a2 hF2 => ?_
                        refine eQL 13 13 0 (v := .int .i64 r) hF2 (by kernel_rfl) rfl rfl (by kernel_rfl) (by kernel_rfl) fun a2 hF2 => ?_
                        refine eQ 14 (v0 := .pointer (some ⟨bb10, 0, none⟩)) (v := .pointer (some ⟨bb10, 0, none⟩)) hF2 (by kernel_rfl) (fun _ => by kernel_rfl) rfl fun a2 hF2 => ?_
                        refine eQ 15 (v0 := .pointer (some ⟨bb10, 0, none⟩)) (v := .pointer (some ⟨bb10, 0, none⟩)) hF2 (by kernel_rfl) (fun _ => by kernel_rfl) rfl fun a2 hF2 => ?_
                        refine eQ 16 (v0 := .pointer (some ⟨bb10, 0, none⟩)) (v := .pointer (some ⟨bb10, 0, none⟩)) hF2 (by kernel_rfl) (fun _ => by kernel_rfl) rfl fun a2 hF2 => ?_
                        refine eQ 17 (v0 := .pointer (some ⟨bb10, 1, none⟩)) (v := .pointer (some ⟨bb10, 1, none⟩)) hF2 (by kernel_rfl) (fun _ => by kernel_rfl) rfl fun a2 hF2 => ?_
                        refine eQL 18 13 1 (v := .int .i64 p) hF2 (by kernel_rfl) rfl rfl (by kernel_rfl) (by kernel_rfl) fun a2 hF2 => ?_
                        have hz23 : 1 ≤ r * p ∧ r * p ≤ 1048575000 := mul_bd (1) (1048575) (1) (1000) (by omega) (by omega) (by omega) (by omega) (by decide)
                        refine eQ 19 (v0 := .int .i64 (IntKind.i64.wrap (r * p))) (v := .int .i64 (r * p)) hF2 (by kernel_rfl) (fun _ => by kernel_rfl) (wi (by omega)) fun a2 hF2 => ?_
                        refine eQ 20 (v0 := .int .i64 (IntKind.i64.wrap (r * p - 1048576))) (v := .int .i64 (r * p - 1048576)) hF2 (by kernel_rfl) (fun _ => by kernel_rfl) (wi (by omega)) fun a2 hF2 => ?_
                        refine eQ 21 (v0 := .int .i64 (pr l m).2) (v := .int .i64 (pr l m).2) hF2 (by kernel_rfl) (fun _ => by kernel_rfl) rfl fun a2 hF2 => ?_
                        have hz24 : -1616902650 ≤ (r * p - 1048576) * (pr l m).2 ∧ (r * p - 1048576) * (pr l m).2 ≤ -1 := mul_bd (-1048575) (-1) (1) (1542) (by omega) (by omega) (by omega) (by omega) (by decide)
                        refine eQ 22 (v0 := .int .i64 (IntKind.i64.wrap ((r * p - 1048576) * (pr l m).2))) (v := .int .i64 ((r * p - 1048576) * (pr l m).2)) hF2 (by kernel_rfl) (fun _ => by kernel_rfl) (wi (by omega)) fun a2 hF2 => ?_
                        refine eQ 23 (v0 := .int .i64 (IntKind.i64.wrap (bl + r * (max (nt free m) (aa + (max 0 (-bl) + r - 1) / r) - aa) + (r * p - 1048576) * (pr l m).2))) (v := .int .i64 (bl + r * (max (nt free m) (aa + (max 0 (-bl) + r - 1) / r) - aa) + (r * p - 1048576) * (pr l m).2)) hF2 (by kernel_rfl) (fun _ => by kernel_rfl) (wi (by omega)) fun a2 hF2 => ?_
                        refine eQ 24 (v0 := .pointer (some ⟨bb10, 0, none⟩)) (v := .pointer (some ⟨bb10, 0, none⟩)) hF2 (by kernel_rfl) (fun _ => by kernel_rfl) rfl fun a2 hF2 => ?_
                        refine eQ 25 (v0 := .pointer (some ⟨bb10, 2, none⟩)) (v := .pointer (some ⟨bb10, 2, none⟩)) hF2 (by kernel_rfl) (fun _ => by kernel_rfl) rfl fun a2 hF2 => ?_
                        refine eQ 26 (v0 := .pointer (some ⟨bb10, 3, none⟩)) (v := .pointer (some ⟨bb10, 3, none⟩)) hF2 (by kernel_rfl) (fun _ => by kernel_rfl) rfl fun a2 hF2 => ?_
                        refine wpQuiet_nil ?_
                        intro w hM
                        refine wl (sStore (i := 13) (off := 3) (cs' := #[.int .i64 r, .int .i64 p, .int .i64 (max (nt free m) (aa + (max 0 (-bl) + r - 1) / r)), .int .i64 (bl + r * (max (nt free m) (aa + (max 0 (-bl) + r - 1) / r) - aa) + (r * p - 1048576) * (pr l m).2)]) hF2 hM (by kernel_rfl) rfl rfl (by kernel_rfl) (by kernel_rfl) rfl (by kernel_rfl) fun w hM => ?_)
                        refine wpList_nil ?_
                        refine hK70 _ _ ?_
                        refine rT 16 (by kernel_rfl) (by kernel_rfl) hM.drew ?_
                        refine eQ 27 (v0 := .pointer (some ⟨bb10, 0, none⟩)) (v := .pointer (some ⟨bb10, 0, none⟩)) hF2 (by kernel_rfl) (fun _ => by kernel_rfl) rfl fun a2 hF2 => ?_
                        refine eQ 28 (v0 := .pointer (some ⟨bb10, 0, none⟩)) (v := .pointer (some ⟨bb10, 0, none⟩)) hF2 (by kernel_rfl) (fun _ => by kernel_rfl) rfl fun a2 hF2 => ?_
                        refine eQ 29 (v0 := .pointer (some ⟨bb10, 2, none⟩)) (v := .pointer (some ⟨bb10, 2, none⟩)) hF2 (by kernel_rfl) (fun _ => by kernel_rfl) rfl fun a2 hF2 => ?_
                        refine eQ 30 (v0 := .pointer (some ⟨bb10, 2, none⟩)) (v := .pointer (some ⟨bb10, 2, none⟩)) hF2 (by kernel_rfl) (fun _ => by kernel_rfl) rfl fun a2 hF2 => ?_
                        refine eQL 31 13 2 (v := .int .i64 (max (nt free m) (aa + (max 0 (-bl) + r - 1) / r))) hF2 (by kernel_rfl) rfl rfl (by kernel_rfl) (by kernel_rfl) fun a2 hF2 => ?_
                        refine eQ 32 (v0 := .int .i64 (pr l m).2) (v := .int .i64 (pr l m).2) hF2 (by kernel_rfl) (fun _ => by kernel_rfl) rfl fun a2 hF2 => ?_
                        refine eQ 33 (v0 := .pointer (some ⟨bb10, 0, none⟩)) (v := .pointer (some ⟨bb10, 0, none⟩)) hF2 (by kernel_rfl) (fun _ => by kernel_rfl) rfl fun a2 hF2 => ?_
                        refine eQ 34 (v0 := .pointer (some ⟨bb10, 0, none⟩)) (v := .pointer (some ⟨bb10, 0, none⟩)) hF2 (by kernel_rfl) (fun _ => by kernel_rfl) rfl fun a2 hF2 => ?_
                        refine eQ 35 (v0 := .pointer (some ⟨bb10, 0, none⟩)) (v := .pointer (some ⟨bb10, 0, none⟩)) hF2 (by kernel_rfl) (fun _ => by kernel_rfl) rfl fun a2 hF2 => ?_
                        refine eQ 36 (v0 := .pointer (some ⟨bb10, 1, none⟩)) (v := .pointer (some ⟨bb10, 1, none⟩)) hF2 (by kernel_rfl) (fun _ => by kernel_rfl) rfl fun a2 hF2 => ?_
                        refine eQL 37 13 1 (v := .int .i64 p) hF2 (by kernel_rfl) rfl rfl (by kernel_rfl) (by kernel_rfl) fun a2 hF2 => ?_
                        have hz25 : 1 ≤ (pr l m).2 * p ∧ (pr l m).2 * p ≤ 1542000 := mul_bd (1) (1542) (1) (1000) (by omega) (by omega) (by omega) (by omega) (by decide)
                        refine eQ 38 (v0 := .int .i64 (IntKind.i64.wrap ((pr l m).2 * p))) (v := .int .i64 ((pr l m).2 * p)) hF2 (by kernel_rfl) (fun _ => by kernel_rfl) (wi (by omega)) fun a2 hF2 => ?_
                        refine eQ 39 (v0 := .int .i64 (IntKind.i64.wrap (max (nt free m) (aa + (max 0 (-bl) + r - 1) / r) + (pr l m).2 * p))) (v := .int .i64 (max (nt free m) (aa + (max 0 (-bl) + r - 1) / r) + (pr l m).2 * p)) hF2 (by kernel_rfl) (fun _ => by kernel_rfl) (wi (by omega)) fun a2 hF2 => ?_
                        refine eQ 40 (v0 := .pointer (some ⟨bb10, 0, none⟩)) (v := .pointer (some ⟨bb10, 0, none⟩)) hF2 (by kernel_rfl) (fun _ => by kernel_rfl) rfl fun a2 hF2 => ?_
                        refine eQ 41 (v0 := .pointer (some ⟨bb10, 2, none⟩)) (v := .pointer (some ⟨bb10, 2, none⟩)) hF2 (by kernel_rfl) (fun _ => by kernel_rfl) rfl fun a2 hF2 => ?_
                        refine eQ 42 (v0 := .pointer (some ⟨bb10, 2, none⟩)) (v := .pointer (some ⟨bb10, 2, none⟩)) hF2 (by kernel_rfl) (fun _ => by kernel_rfl) rfl fun a2 hF2 => ?_
                        refine wpQuiet_nil ?_
                        intro w hM
                        refine wl (sStore (i := 13) (off := 2) (cs' := #[.int .i64 r, .int .i64 p, .int .i64 (max (nt free m) (aa + (max 0 (-bl) + r - 1) / r) + (pr l m).2 * p), .int .i64 (bl + r * (max (nt free m) (aa + (max 0 (-bl) + r - 1) / r) - aa) + (r * p - 1048576) * (pr l m).2)]) hF2 hM (by kernel_rfl) rfl rfl (by kernel_rfl) (by kernel_rfl) rfl (by kernel_rfl) fun w hM => ?_)
                        refine wpList_nil ?_
                        refine hNR69 _ _ ?_
                        refine ret_ofN hF2 hM (.nil) ⟨_, rfl, ?_⟩
                        intro a1 hF1
                        refine wpList_nil ?_
                        refine hK68 _ _ ?_
                        refine wp_seq_k fun K71 hK71 => ?_
                        refine rT 4 (by kernel_rfl) (by kernel_rfl) hM.drew ?_
                        refine eQ 35 (v0 := .int .i64 (max (nt free m) (aa + (max 0 (-bl) + r - 1) / r))) (v := .int .i64 (max (nt free m) (aa + (max 0 (-bl) + r - 1) / r))) hF1 (by kernel_rfl) (fun _ => by kernel_rfl) rfl fun a1 hF1 => ?_
                        refine eQ 36 (v0 := .pointer (some ⟨bb10, 2, none⟩)) (v := .pointer (some ⟨bb10, 2, none⟩)) hF1 (by kernel_rfl) (fun _ => by kernel_rfl) rfl fun a1 hF1 => ?_
                        refine eQL 37 13 2 (v := .agg #[.int .i64 (max (nt free m) (aa + (max 0 (-bl) + r - 1) / r) + (pr l m).2 * p), .int .i64 (bl + r * (max (nt free m) (aa + (max 0 (-bl) + r - 1) / r) - aa) + (r * p - 1048576) * (pr l m).2)]) hF1 (by kernel_rfl) rfl rfl (by kernel_rfl) (by kernel_rfl) fun a1 hF1 => ?_
                        refine eQ 10 (v0 := .int .i64 (max (nt free m) (aa + (max 0 (-bl) + r - 1) / r))) (v := .int .i64 (max (nt free m) (aa + (max 0 (-bl) + r - 1) / r))) hF1 (by kernel_rfl) (fun _ => by kernel_rfl) rfl fun a1 hF1 => ?_
                        refine wpQuiet_nil ?_
                        intro w hM
                        refine wl (sStore (i := 12) (off := 0) (cs' := #[.int .i64 (max (nt free m) (aa + (max 0 (-bl) + r - 1) / r) + (pr l m).2 * p), .int .i64 (bl + r * (max (nt free m) (aa + (max 0 (-bl) + r - 1) / r) - aa) + (r * p - 1048576) * (pr l m).2)]) hF1 hM (by kernel_rfl) rfl rfl (by kernel_rfl) (by kernel_rfl) rfl (by kernel_rfl) fun w hM => ?_)
                        refine wpList_nil ?_
                        refine hK71 _ _ ?_
                        refine wp_ret ?_
                        refine hR52 _ _ ?_
                        refine ret_of hF1 hM (.tmp rfl (.cell (i := 12) rfl rfl (v := .agg #[.int .i64 (max (nt free m) (aa + (max 0 (-bl) + r - 1) / r) + (pr l m).2 * p), .int .i64 (bl + r * (max (nt free m) (aa + (max 0 (-bl) + r - 1) / r) - aa) + (r * p - 1048576) * (pr l m).2)]) (by kernel_rfl) (.nil))) ⟨_, rfl, ?_⟩
                        intro a hF
                        refine sB 2 [(92, .int .i64 (max (nt free m) (aa + (max 0 (-bl) + r - 1) / r))), (93, .agg #[.int .i64 (max (nt free m) (aa + (max 0 (-bl) + r - 1) / r) + (pr l m).2 * p), .int .i64 (bl + r * (max (nt free m) (aa + (max 0 (-bl) + r - 1) / r) - aa) + (r * p - 1048576) * (pr l m).2)])] hF (by kernel_rfl) fun a hF => ?_
                        refine wl (sC (f := 28) (args := #[.int .i64 (max (nt free m) (aa + (max 0 (-bl) + r - 1) / r)), .agg #[.int .i64 (max (nt free m) (aa + (max 0 (-bl) + r - 1) / r) + (pr l m).2 * p), .int .i64 (bl + r * (max (nt free m) (aa + (max 0 (-bl) + r - 1) / r) - aa) + (r * p - 1048576) * (pr l m).2)], .pointer (some ⟨bb4, 0, none⟩), .pointer (some ⟨bb5, 0, none⟩)]) hF (by kernel_rfl) rfl (by decide) (by kernel_rfl) (fun _ => by kernel_rfl) ?_)
                        refine enterK 15 Try.func28 rfl rfl rfl ?_
                        intro a1 hF1 QR72 hR72 hNR72
                        refine wp_seq_k fun K73 hK73 => ?_
                        refine wp_region_lit ?_
                        refine wl (eN 5 14 (t := 40) (fun b => .pointer (some ⟨b, 0, none⟩)) #[.int .i64 (max (nt free m) (aa + (max 0 (-bl) + r - 1) / r) + (pr l m).2 * p), .int .i64 (bl + r * (max (nt free m) (aa + (max 0 (-bl) + r - 1) / r) - aa) + (r * p - 1048576) * (pr l m).2)] hF1 hM (by kernel_rfl) (fun _ => by kernel_rfl) fun bb11 a1 w hF1 hM => ?_)
                        refine sB 1 [(6, .bool false)] hF1 (by kernel_rfl) fun a1 hF1 => ?_
                        refine wpList_nil ?_
                        refine hK73 _ _ ?_
                        refine wp_seq_k fun K74 hK74 => ?_
                        refine wp_region_lit ?_
                        refine wl (eL 7 6 0 (v := .slice G m gc) hF1 hM (by kernel_rfl) rfl rfl (by kernel_rfl) (by kernel_rfl) fun a1 w hF1 hM => ?_)
                        refine sB 1 [(8, .int .i64 (max (nt free m) (aa + (max 0 (-bl) + r - 1) / r)))] hF1 (by kernel_rfl) fun a1 hF1 => ?_
                        refine wl (eN 9 15 (t := 3) (fun b => .slice (some ⟨b, 0, none⟩) 1 1) #[.int .i64 (max (nt free m) (aa + (max 0 (-bl) + r - 1) / r))] hF1 hM (by kernel_rfl) (fun _ => by kernel_rfl) fun bb12 a1 w hF1 hM => ?_)
                        refine wl (sApp 10 8 (e := 3) (size := 1) (bytes := 8) (z := .int .i64 0) (m := 1) (c := 1) (l := m) (cap := gc) (A := G) (news := [.int .i64 (max (nt free m) (aa + (max 0 (-bl) + r - 1) / r))]) ((got ++ [max (nt free m) (aa + (max 0 (-bl) + r - 1) / r)]).map (Value.int .i64)) hF1 hM (by kernel_rfl) rfl (by kernel_rfl) (by kernel_rfl) (by kernel_rfl) rfl rfl rfl rfl (roR 15 rfl) (by simp [Value.oneCell']) (by omega) (by decide) (map_snoc' _ _ _) fun AA13 cc13 a1 w hF1 hM => ?_)
                        refine wl (sStore (i := 6) (off := 0) (cs' := #[.slice AA13 (m + 1) cc13]) hF1 hM (by kernel_rfl) rfl rfl (by kernel_rfl) (by kernel_rfl) rfl (by kernel_rfl) fun w hM => ?_)
                        refine wpList_nil ?_
                        refine hK74 _ _ ?_
                        refine wp_seq_k fun K75 hK75 => ?_
                        refine wp_region_lit ?_
                        refine wl (eL 11 14 0 (v := .agg #[.int .i64 (max (nt free m) (aa + (max 0 (-bl) + r - 1) / r) + (pr l m).2 * p), .int .i64 (bl + r * (max (nt free m) (aa + (max 0 (-bl) + r - 1) / r) - aa) + (r * p - 1048576) * (pr l m).2)]) hF1 hM (by kernel_rfl) rfl rfl (by kernel_rfl) (by kernel_rfl) fun a1 w hF1 hM => ?_)
                        refine wl (sStore (i := 7) (off := 0) (cs' := #[.int .i64 (max (nt free m) (aa + (max 0 (-bl) + r - 1) / r) + (pr l m).2 * p), .int .i64 (bl + r * (max (nt free m) (aa + (max 0 (-bl) + r - 1) / r) - aa) + (r * p - 1048576) * (pr l m).2)]) hF1 hM (by kernel_rfl) rfl rfl (by kernel_rfl) (by kernel_rfl) rfl (by kernel_rfl) fun w hM => ?_)
                        refine wpList_nil ?_
                        refine hK75 _ _ ?_
                        refine wp_seq_k fun K76 hK76 => ?_
                        refine wp_region_lit ?_
                        refine wl (eL 12 14 0 (v := .agg #[.int .i64 (max (nt free m) (aa + (max 0 (-bl) + r - 1) / r) + (pr l m).2 * p), .int .i64 (bl + r * (max (nt free m) (aa + (max 0 (-bl) + r - 1) / r) - aa) + (r * p - 1048576) * (pr l m).2)]) hF1 hM (by kernel_rfl) rfl rfl (by kernel_rfl) (by kernel_rfl) fun a1 w hF1 hM => ?_)
                        refine wl (eM 13 (v := .int .i64 (stateE (max (nt free m) (aa + (max 0 (-bl) + r - 1) / r) + (pr l m).2 * p) (bl + r * (max (nt free m) (aa + (max 0 (-bl) + r - 1) / r) - aa) + (r * p - 1048576) * (pr l m).2))) hF1 hM (by kernel_rfl) (yld_call (f := 18) (args := #[.agg #[.int .i64 (max (nt free m) (aa + (max 0 (-bl) + r - 1) / r) + (pr l m).2 * p), .int .i64 (bl + r * (max (nt free m) (aa + (max 0 (-bl) + r - 1) / r) - aa) + (r * p - 1048576) * (pr l m).2)]]) hF1 (by kernel_rfl) (fun _ => by kernel_rfl) (fun w hM => crState_w (max (nt free m) (aa + (max 0 (-bl) + r - 1) / r) + (pr l m).2 * p) (bl + r * (max (nt free m) (aa + (max 0 (-bl) + r - 1) / r) - aa) + (r * p - 1048576) * (pr l m).2) w)) fun a1 w hF1 hM => ?_)
                        refine sB 2 [(14, .bool (decide (stateE (max (nt free m) (aa + (max 0 (-bl) + r - 1) / r) + (pr l m).2 * p) (bl + r * (max (nt free m) (aa + (max 0 (-bl) + r - 1) / r) - aa) + (r * p - 1048576) * (pr l m).2) = 0))), (6, .bool (decide (stateE (max (nt free m) (aa + (max 0 (-bl) + r - 1) / r) + (pr l m).2 * p) (bl + r * (max (nt free m) (aa + (max 0 (-bl) + r - 1) / r) - aa) + (r * p - 1048576) * (pr l m).2) = 0)))] hF1 (by kernel_rfl) fun a1 hF1 => ?_
                        refine wpList_nil ?_
                        refine hK76 _ _ ?_
                        refine wp_ret ?_
                        refine hR72 _ _ ?_
                        refine ret_of hF1 hM (.tmp rfl (.nil)) ⟨_, rfl, ?_⟩
                        intro a hF
                        refine sB 1 [(95, .bool (!decide (stateE (max (nt free m) (aa + (max 0 (-bl) + r - 1) / r) + (pr l m).2 * p) (bl + r * (max (nt free m) (aa + (max 0 (-bl) + r - 1) / r) - aa) + (r * p - 1048576) * (pr l m).2) = 0)))] hF (by kernel_rfl) fun a hF => ?_
                        refine wpList_nil ?_
                        refine hK51 _ _ ?_
                        by_cases hz26 : stateE (max (nt free m) (aa + (max 0 (-bl) + r - 1) / r) + (pr l m).2 * p) (bl + r * (max (nt free m) (aa + (max 0 (-bl) + r - 1) / r) - aa) + (r * p - 1048576) * (pr l m).2) = 0
                        · skip
                          have hz27 := stateE_ok hz26
                          replace hF := hF.c hF (i := 94) (v := .bool true) rfl (bT hz26)
                          replace hF := hF.c hF (i := 95) (v := .bool false) rfl (nT hz26)
                          refine cF hF (by kernel_rfl) (by kernel_rfl) ?_
                          refine wp_skip ?_
                          refine hK46 _ _ ?_
                          refine wp_region_lit ?_
                          refine wl (eP 97 (v0 := .int .i64 (IntKind.i64.wrap ((m : Int) + 1))) (v := .int .i64 ((m : Int) + 1)) hF (by kernel_rfl) (fun _ => by kernel_rfl) (wi (by omega)) fun a hF => ?_)
                          refine sB 1 [(70, .int .i64 ((m : Int) + 1))] hF (by kernel_rfl) fun a hF => ?_
                          refine wpList_nil ?_
                          have hfa : freeAt free m = nt free m := freeAt_in (nt_some (by omega))
                          have hst := step_le (r := r) (p := p) (a := aa) (l := bl) (at_ := (pr l m).1) (free := nt free m) (size := (pr l m).2) hz21
                          have hA : stepAt r p aa bl (pr l m).1 (nt free m) (pr l m).2 = stepStart r aa bl (pr l m).1 (nt free m) + (pr l m).2 * p := rfl
                          have hL := hst.2
                          have hs1 : stepStart r aa bl (pr l m).1 (nt free m) = max (nt free m) (aa + (max 0 (-bl) + r - 1) / r) := by first | exact hst.1 | (rw [hst.1]; omega)
                          rw [hs1] at hA hL
                          have hRN := runAt_next (t := (pr l m).1) (s := (pr l m).2) hRA (pr_some (by omega)) (by rw [hfa, hA, hL]; exact stateB_of hz26)
                          rw [hfa, hA, hL, hs1] at hRN
                          refine hK43 _ _ ⟨(m + 1, max (nt free m) (aa + (max 0 (-bl) + r - 1) / r) + (pr l m).2 * p, bl + r * (max (nt free m) (aa + (max 0 (-bl) + r - 1) / r) - aa) + (r * p - 1048576) * (pr l m).2, got ++ [max (nt free m) (aa + (max 0 (-bl) + r - 1) / r)], AA13, cc13), ⟨((((((((((Fr.nil hF).c hF (i := 69) rfl rfl).c hF (i := 68) rfl rfl).c hF (i := 17) rfl rfl).c hF (i := 16) rfl rfl).c hF (i := 15) rfl rfl).c hF (i := 7) rfl rfl).c hF (i := 3) rfl rfl).c hF (i := 2) rfl rfl).c hF (i := 70) rfl (vi (show ((m : Int) + 1 : Int) = ((m + 1) : Int) from by omega))), (hM.sub (((((((Sub.nil.c (k := 8) rfl rfl).c (k := 7) rfl rfl).c (k := 6) rfl rfl).c (k := 4) rfl rfl).c (k := 3) rfl rfl).c (k := 2) rfl rfl).c (k := 1) rfl rfl)), (show ((m + 1) : Int) ≤ (l.length : Int) from by omega), (show RunAt r p l free (m + 1) (got ++ [max (nt free m) (aa + (max 0 (-bl) + r - 1) / r)]) (max (nt free m) (aa + (max 0 (-bl) + r - 1) / r) + (pr l m).2 * p) (bl + r * (max (nt free m) (aa + (max 0 (-bl) + r - 1) / r) - aa) + (r * p - 1048576) * (pr l m).2) from by exact hRN)⟩, (show l.length - (m + 1) < l.length - m from by omega)⟩
                        · skip
                          replace hF := hF.c hF (i := 94) (v := .bool false) rfl (bF hz26)
                          replace hF := hF.c hF (i := 95) (v := .bool true) rfl (nF hz26)
                          refine cT hF (by kernel_rfl) (by kernel_rfl) ?_
                          refine wp_seq_k fun K77 hK77 => ?_
                          refine wp_region_lit ?_
                          refine sB 2 [(96, .agg #[.int .i64 0, .int .i64 0]), (6, .slice none 0 0)] hF (by kernel_rfl) fun a hF => ?_
                          refine wl (sStore (i := 4) (off := 0) (cs' := #[.int .i64 0, .int .i64 0]) hF hM (by kernel_rfl) rfl rfl (by kernel_rfl) (by kernel_rfl) rfl (by kernel_rfl) fun w hM => ?_)
                          refine sB 1 [(8, .int .i64 6)] hF (by kernel_rfl) fun a hF => ?_
                          refine wpList_nil ?_
                          refine hK77 _ _ ?_
                          refine wp_ret ?_
                          refine hR0 _ _ ?_
                          refine ret_of hF hM (.tmp rfl (.cell (i := 4) rfl rfl (v := .agg #[.int .i64 0, .int .i64 0]) (by kernel_rfl) (.tmp rfl (.nil)))) ?_
                          have hfa : freeAt free m = nt free m := freeAt_in (nt_some (by omega))
                          have hst := step_le (r := r) (p := p) (a := aa) (l := bl) (at_ := (pr l m).1) (free := nt free m) (size := (pr l m).2) hz21
                          have hA : stepAt r p aa bl (pr l m).1 (nt free m) (pr l m).2 = stepStart r aa bl (pr l m).1 (nt free m) + (pr l m).2 * p := rfl
                          have hL := hst.2
                          have hs1 : stepStart r aa bl (pr l m).1 (nt free m) = max (nt free m) (aa + (max 0 (-bl) + r - 1) / r) := by first | exact hst.1 | (rw [hst.1]; omega)
                          rw [hs1] at hA hL
                          exact runPost_err (runS_bad5 (slopeB_of hz1) (trB_of hz3) (by omega) (args_of hall hfree) (runAt_big (t := (pr l m).1) (s := (pr l m).2) hRA (pr_some (by omega)) (by rw [hfa, hA, hL]; exact stateB_not hz26))) (by decide) ⟨rfl, hM.bel⟩
                      · skip
                        replace hF2 := hF2.c hF2 (i := 10) (v := .bool false) rfl (bF hz21)
                        refine cF hF2 (by kernel_rfl) (by kernel_rfl) ?_
                        refine wp_skip ?_
                        refine hK58 _ _ ?_
                        refine wp_seq_k fun K78 hK78 => ?_
                        refine rT 24 (by kernel_rfl) (by kernel_rfl) hM.drew ?_
                        refine eQ 11 (v0 := .pointer (some ⟨bb10, 0, none⟩)) (v := .pointer (some ⟨bb10, 0, none⟩)) hF2 (by kernel_rfl) (fun _ => by kernel_rfl) rfl fun a2 hF2 => ?_
                        refine eQ 12 (v0 := .pointer (some ⟨bb10, 0, none⟩)) (v := .pointer (some ⟨bb10, 0, none⟩)) hF2 (by kernel_rfl) (fun _ => by kernel_rfl) rfl fun a2 hF2 => ?_
                        refine eQ 13 (v0 := .pointer (some ⟨bb10, 0, none⟩)) (v := .pointer (some ⟨bb10, 0, none⟩)) hF2 (by kernel_rfl) (fun _ => by kernel_rfl) rfl fun a2 hF2 => ?_
                        refine eQ 14 (v0 := .pointer (some ⟨bb10, 2, none⟩)) (v := .pointer (some ⟨bb10, 2, none⟩)) hF2 (by kernel_rfl) (fun _ => by kernel_rfl) rfl fun a2 hF2 => ?_
                        refine eQ 15 (v0 := .pointer (some ⟨bb10, 3, none⟩)) (v := .pointer (some ⟨bb10, 3, none⟩)) hF2 (by kernel_rfl) (fun _ => by kernel_rfl) rfl fun a2 hF2 => ?_
                        refine eQL 16 13 3 (v := .int .i64 bl) hF2 (by kernel_rfl) rfl rfl (by kernel_rfl) (by kernel_rfl) fun a2 hF2 => ?_
                        refine eQ 17 (v0 := .pointer (some ⟨bb10, 0, none⟩)) (v := .pointer (some ⟨bb10, 0, none⟩)) hF2 (by kernel_rfl) (fun _ => by kernel_rfl) rfl fun a2 hF2 => ?_
                        refine eQ 18 (v0 := .pointer (some ⟨bb10, 0, none⟩)) (v := .pointer (some ⟨bb10, 0, none⟩)) hF2 (by kernel_rfl) (fun _ => by kernel_rfl) rfl fun a2 hF2 => ?_
                        refine eQ 19 (v0 := .pointer (some ⟨bb10, 0, none⟩)) (v := .pointer (some ⟨bb10, 0, none⟩)) hF2 (by kernel_rfl) (fun _ => by kernel_rfl) rfl fun a2 hF2 => ?_
                        refine eQ 20 (v0 := .pointer (some ⟨bb10, 0, none⟩)) (v := .pointer (some ⟨bb10, 0, none⟩)) hF2 (by kernel_rfl) (fun _ => by kernel_rfl) rfl fun a2 hF2 => ?_
                        refine eQL 21 13 0 (v := .int .i64 r) hF2 (by kernel_rfl) rfl rfl (by kernel_rfl) (by kernel_rfl) fun a2 hF2 => ?_
                        refine eQ 22 (v0 := .int .i64 (pr l m).1) (v := .int .i64 (pr l m).1) hF2 (by kernel_rfl) (fun _ => by kernel_rfl) rfl fun a2 hF2 => ?_
                        refine eQ 23 (v0 := .pointer (some ⟨bb10, 0, none⟩)) (v := .pointer (some ⟨bb10, 0, none⟩)) hF2 (by kernel_rfl) (fun _ => by kernel_rfl) rfl fun a2 hF2 => ?_
                        refine eQ 24 (v0 := .pointer (some ⟨bb10, 0, none⟩)) (v := .pointer (some ⟨bb10, 0, none⟩)) hF2 (by kernel_rfl) (fun _ => by kernel_rfl) rfl fun a2 hF2 => ?_
                        refine eQ 25 (v0 := .pointer (some ⟨bb10, 2, none⟩)) (v := .pointer (some ⟨bb10, 2, none⟩)) hF2 (by kernel_rfl) (fun _ => by kernel_rfl) rfl fun a2 hF2 => ?_
                        refine eQ 26 (v0 := .pointer (some ⟨bb10, 2, none⟩)) (v := .pointer (some ⟨bb10, 2, none⟩)) hF2 (by kernel_rfl) (fun _ => by kernel_rfl) rfl fun a2 hF2 => ?_
                        refine eQL 27 13 2 (v := .int .i64 aa) hF2 (by kernel_rfl) rfl rfl (by kernel_rfl) (by kernel_rfl) fun a2 hF2 => ?_
                        refine eQ 28 (v0 := .int .i64 (IntKind.i64.wrap ((pr l m).1 - aa))) (v := .int .i64 ((pr l m).1 - aa)) hF2 (by kernel_rfl) (fun _ => by kernel_rfl) (wi (by omega)) fun a2 hF2 => ?_
                        have hz28 : 1 ≤ r * ((pr l m).1 - aa) ∧ r * ((pr l m).1 - aa) ≤ 1125898833100800 := mul_bd (1) (1048575) (1) (1073741824) (by omega) (by omega) (by omega) (by omega) (by decide)
                        refine eQ 29 (v0 := .int .i64 (IntKind.i64.wrap (r * ((pr l m).1 - aa)))) (v := .int .i64 (r * ((pr l m).1 - aa))) hF2 (by kernel_rfl) (fun _ => by kernel_rfl) (wi (by omega)) fun a2 hF2 => ?_
                        refine eQ 30 (v0 := .int .i64 (IntKind.i64.wrap (bl + r * ((pr l m).1 - aa)))) (v := .int .i64 (bl + r * ((pr l m).1 - aa))) hF2 (by kernel_rfl) (fun _ => by kernel_rfl) (wi (by omega)) fun a2 hF2 => ?_
                        refine eQ 31 (v0 := .int .i64 (if bl + r * ((pr l m).1 - aa) < 0 then bl + r * ((pr l m).1 - aa) else 0)) (v := .int .i64 (min 0 (bl + r * ((pr l m).1 - aa)))) hF2 (by kernel_rfl) (fun _ => by kernel_rfl) (vi (min_if _ _)) fun a2 hF2 => ?_
                        refine eQ 32 (v0 := .pointer (some ⟨bb10, 0, none⟩)) (v := .pointer (some ⟨bb10, 0, none⟩)) hF2 (by kernel_rfl) (fun _ => by kernel_rfl) rfl fun a2 hF2 => ?_
                        refine eQ 33 (v0 := .pointer (some ⟨bb10, 2, none⟩)) (v := .pointer (some ⟨bb10, 2, none⟩)) hF2 (by kernel_rfl) (fun _ => by kernel_rfl) rfl fun a2 hF2 => ?_
                        refine eQ 34 (v0 := .pointer (some ⟨bb10, 3, none⟩)) (v := .pointer (some ⟨bb10, 3, none⟩)) hF2 (by kernel_rfl) (fun _ => by kernel_rfl) rfl fun a2 hF2 => ?_
                        refine wpQuiet_nil ?_
                        intro w hM
                        refine wl (sStore (i := 13) (off := 3) (cs' := #[.int .i64 r, .int .i64 p, .int .i64 aa, .int .i64 (min 0 (bl + r * ((pr l m).1 - aa)))]) hF2 hM (by kernel_rfl) rfl rfl (by kernel_rfl) (by kernel_rfl) rfl (by kernel_rfl) fun w hM => ?_)
                        refine wpList_nil ?_
                        refine hK78 _ _ ?_
                        refine wp_region_lit ?_
                        refine sB 5 [(35, .pointer (some ⟨bb10, 0, none⟩)), (36, .int .i64 (pr l m).1), (37, .pointer (some ⟨bb10, 0, none⟩)), (38, .pointer (some ⟨bb10, 2, none⟩)), (39, .pointer (some ⟨bb10, 2, none⟩))] hF2 (by kernel_rfl) fun a2 hF2 => ?_
                        refine wl (sStore (i := 13) (off := 2) (cs' := #[.int .i64 r, .int .i64 p, .int .i64 (pr l m).1, .int .i64 (min 0 (bl + r * ((pr l m).1 - aa)))]) hF2 hM (by kernel_rfl) rfl rfl (by kernel_rfl) (by kernel_rfl) rfl (by kernel_rfl) fun w hM => ?_)
                        refine wpList_nil ?_
                        refine hNR57 _ _ ?_
                        refine ret_ofN hF2 hM (.nil) ⟨_, rfl, ?_⟩
                        intro a1 hF1
                        refine wpList_nil ?_
                        refine hK56 _ _ ?_
                        refine wp_seq_k fun K79 hK79 => ?_
                        refine wp_region_lit ?_
                        refine sB 1 [(26, .int .i64 (nt free m))] hF1 (by kernel_rfl) fun a1 hF1 => ?_
                        refine wl (sC (f := 41) (args := #[.pointer (some ⟨bb10, 0, none⟩)]) hF1 (by kernel_rfl) rfl (by decide) (by kernel_rfl) (fun _ => by kernel_rfl) ?_)
                        refine enterK 31 Try.func41 rfl rfl rfl ?_
                        intro a2 hF2 QR80 hR80 hNR80
                        refine wp_seq_k fun K81 hK81 => ?_
                        refine wp_region_lit ?_
                        refine sB 1 [(2, .int .i64 0)] hF2 (by kernel_rfl) fun a2 hF2 => ?_
                        refine wpList_nil ?_
                        refine hK81 _ _ ?_
                        refine wp_seq_k fun K82 hK82 => ?_
                        refine wp_region_lit ?_
                        refine sB 4 [(4, .pointer (some ⟨bb10, 0, none⟩)), (5, .pointer (some ⟨bb10, 0, none⟩)), (6, .pointer (some ⟨bb10, 2, none⟩)), (7, .pointer (some ⟨bb10, 3, none⟩))] hF2 (by kernel_rfl) fun a2 hF2 => ?_
                        refine wl (eL 8 13 3 (v := .int .i64 (min 0 (bl + r * ((pr l m).1 - aa)))) hF2 hM (by kernel_rfl) rfl rfl (by kernel_rfl) (by kernel_rfl) fun a2 w hF2 hM => ?_)
                        refine wl (eP 9 (v0 := .int .i64 (IntKind.i64.wrap (0 - min 0 (bl + r * ((pr l m).1 - aa))))) (v := .int .i64 (-min 0 (bl + r * ((pr l m).1 - aa)))) hF2 (by kernel_rfl) (fun _ => by kernel_rfl) (vi (by rw [Int.zero_sub]; exact (w64 (by omega)))) fun a2 hF2 => ?_)
                        refine wl (eP 10 (v0 := .int .i64 (if -min 0 (bl + r * ((pr l m).1 - aa)) > 0 then -min 0 (bl + r * ((pr l m).1 - aa)) else 0)) (v := .int .i64 (max 0 (-min 0 (bl + r * ((pr l m).1 - aa))))) hF2 (by kernel_rfl) (fun _ => by kernel_rfl) (vi (max_if _ _)) fun a2 hF2 => ?_)
                        refine sB 1 [(3, .int .i64 (max 0 (-min 0 (bl + r * ((pr l m).1 - aa)))))] hF2 (by kernel_rfl) fun a2 hF2 => ?_
                        refine wpList_nil ?_
                        refine hK82 _ _ ?_
                        refine wp_seq_k fun K83 hK83 => ?_
                        refine rQ hM (by kernel_rfl) (by kernel_rfl) ?_
                        refine eQ 11 (v0 := .pointer (some ⟨bb10, 0, none⟩)) (v := .pointer (some ⟨bb10, 0, none⟩)) hF2 (by kernel_rfl) (fun _ => by kernel_rfl) rfl fun a2 hF2 => ?_
                        refine eQ 12 (v0 := .pointer (some ⟨bb10, 0, none⟩)) (v := .pointer (some ⟨bb10, 0, none⟩)) hF2 (by kernel_rfl) (fun _ => by kernel_rfl) rfl fun a2 hF2 => ?_
                        refine eQ 13 (v0 := .pointer (some ⟨bb10, 2, none⟩)) (v := .pointer (some ⟨bb10, 2, none⟩)) hF2 (by kernel_rfl) (fun _ => by kernel_rfl) rfl fun a2 hF2 => ?_
                        refine eQ 14 (v0 := .pointer (some ⟨bb10, 2, none⟩)) (v := .pointer (some ⟨bb10, 2, none⟩)) hF2 (by kernel_rfl) (fun _ => by kernel_rfl) rfl fun a2 hF2 => ?_
                        refine eQL 15 13 2 (v := .int .i64 (pr l m).1) hF2 (by kernel_rfl) rfl rfl (by kernel_rfl) (by kernel_rfl) fun a2 hF2 => ?_
                        refine eQ 16 (v0 := .int .i64 (max 0 (-min 0 (bl + r * ((pr l m).1 - aa))))) (v := .int .i64 (max 0 (-min 0 (bl + r * ((pr l m).1 - aa))))) hF2 (by kernel_rfl) (fun _ => by kernel_rfl) rfl fun a2 hF2 => ?_
                        refine eQ 17 (v0 := .pointer (some ⟨bb10, 0, none⟩)) (v := .pointer (some ⟨bb10, 0, none⟩)) hF2 (by kernel_rfl) (fun _ => by kernel_rfl) rfl fun a2 hF2 => ?_
                        refine eQ 18 (v0 := .pointer (some ⟨bb10, 0, none⟩)) (v := .pointer (some ⟨bb10, 0, none⟩)) hF2 (by kernel_rfl) (fun _ => by kernel_rfl) rfl fun a2 hF2 => ?_
                        refine eQ 19 (v0 := .pointer (some ⟨bb10, 0, none⟩)) (v := .pointer (some ⟨bb10, 0, none⟩)) hF2 (by kernel_rfl) (fun _ => by kernel_rfl) rfl fun a2 hF2 => ?_
                        refine eQ 20 (v0 := .pointer (some ⟨bb10, 0, none⟩)) (v := .pointer (some ⟨bb10, 0, none⟩)) hF2 (by kernel_rfl) (fun _ => by kernel_rfl) rfl fun a2 hF2 => ?_
                        refine eQL 21 13 0 (v := .int .i64 r) hF2 (by kernel_rfl) rfl rfl (by kernel_rfl) (by kernel_rfl) fun a2 hF2 => ?_
                        refine eQ 22 (v0 := .int .i64 (IntKind.i64.wrap (max 0 (-min 0 (bl + r * ((pr l m).1 - aa))) + r))) (v := .int .i64 (max 0 (-min 0 (bl + r * ((pr l m).1 - aa))) + r)) hF2 (by kernel_rfl) (fun _ => by kernel_rfl) (wi (by omega)) fun a2 hF2 => ?_
                        refine eQ 23 (v0 := .int .i64 (IntKind.i64.wrap (max 0 (-min 0 (bl + r * ((pr l m).1 - aa))) + r - 1))) (v := .int .i64 (max 0 (-min 0 (bl + r * ((pr l m).1 - aa))) + r - 1)) hF2 (by kernel_rfl) (fun _ => by kernel_rfl) (wi (by omega)) fun a2 hF2 => ?_
                        refine eQ 24 (v0 := .pointer (some ⟨bb10, 0, none⟩)) (v := .pointer (some ⟨bb10, 0, none⟩)) hF2 (by kernel_rfl) (fun _ => by kernel_rfl) rfl fun a2 hF2 => ?_
                        refine eQ 25 (v0 := .pointer (some ⟨bb10, 0, none⟩)) (v := .pointer (some ⟨bb10, 0, none⟩)) hF2 (by kernel_rfl) (fun _ => by kernel_rfl) rfl fun a2 hF2 => ?_
                        refine eQ 26 (v0 := .pointer (some ⟨bb10, 0, none⟩)) (v := .pointer (some ⟨bb10, 0, none⟩)) hF2 (by kernel_rfl) (fun _ => by kernel_rfl) rfl fun a2 hF2 => ?_
                        refine eQ 27 (v0 := .pointer (some ⟨bb10, 0, none⟩)) (v := .pointer (some ⟨bb10, 0, none⟩)) hF2 (by kernel_rfl) (fun _ => by kernel_rfl) rfl fun a2 hF2 => ?_
                        refine eQL 28 13 0 (v := .int .i64 r) hF2 (by kernel_rfl) rfl rfl (by kernel_rfl) (by kernel_rfl) fun a2 hF2 => ?_
                        refine eQ2 29 (v := .int .i64 ((max 0 (-min 0 (bl + r * ((pr l m).1 - aa))) + r - 1) / r)) hF2 (by kernel_rfl) (yld_quo (max 0 (-min 0 (bl + r * ((pr l m).1 - aa))) + r - 1) r hF2 rfl (by kernel_rfl) (by kernel_rfl) (by kernel_rfl) (by omega) (qpos_i64 (by omega) (by omega) (by omega))) fun a2 hF2 => ?_
                        have := ediv_le_self_of (p := max 0 (-min 0 (bl + r * ((pr l m).1 - aa))) + r - 1) (q := r) (by omega) (by omega)
                        refine eQ 30 (v0 := .int .i64 (IntKind.i64.wrap ((pr l m).1 + (max 0 (-min 0 (bl + r * ((pr l m).1 - aa))) + r - 1) / r))) (v := .int .i64 ((pr l m).1 + (max 0 (-min 0 (bl + r * ((pr l m).1 - aa))) + r - 1) / r)) hF2 (by kernel_rfl) (fun _ => by kernel_rfl) (wi (by omega)) fun a2 hF2 => ?_
                        refine eQ 2 (v0 := .int .i64 ((pr l m).1 + (max 0 (-min 0 (bl + r * ((pr l m).1 - aa))) + r - 1) / r)) (v := .int .i64 ((pr l m).1 + (max 0 (-min 0 (bl + r * ((pr l m).1 - aa))) + r - 1) / r)) hF2 (by kernel_rfl) (fun _ => by kernel_rfl) rfl fun a2 hF2 => ?_
                        refine wpQuiet_nil ?_
                        intro w hM
                        refine hK83 _ _ ?_
                        refine wp_ret ?_
                        refine hR80 _ _ ?_
                        refine ret_of hF2 hM (.tmp rfl (.nil)) ⟨_, rfl, ?_⟩
                        intro a1 hF1
                        refine wl (eP 28 (v0 := .int .i64 (if (pr l m).1 + (max 0 (-min 0 (bl + r * ((pr l m).1 - aa))) + r - 1) / r > nt free m then (pr l m).1 + (max 0 (-min 0 (bl + r * ((pr l m).1 - aa))) + r - 1) / r else nt free m)) (v := .int .i64 (max (nt free m) ((pr l m).1 + (max 0 (-min 0 (bl + r * ((pr l m).1 - aa))) + r - 1) / r))) hF1 (by kernel_rfl) (fun _ => by kernel_rfl) (vi (max_if _ _)) fun a1 hF1 => ?_)
                        refine sB 1 [(16, .int .i64 (max (nt free m) ((pr l m).1 + (max 0 (-min 0 (bl + r * ((pr l m).1 - aa))) + r - 1) / r)))] hF1 (by kernel_rfl) fun a1 hF1 => ?_
                        refine wpList_nil ?_
                        refine hK79 _ _ ?_
                        refine wp_seq_k fun K84 hK84 => ?_
                        refine wp_region_lit ?_
                        refine sB 2 [(29, .func (.func 39) #[.pointer (some ⟨bb10, 0, none⟩)] #[]), (30, .int .i64 (max (nt free m) ((pr l m).1 + (max 0 (-min 0 (bl + r * ((pr l m).1 - aa))) + r - 1) / r)))] hF1 (by kernel_rfl) fun a1 hF1 => ?_
                        refine wl (sC (f := 39) (args := #[.pointer (some ⟨bb10, 0, none⟩), .int .i64 (max (nt free m) ((pr l m).1 + (max 0 (-min 0 (bl + r * ((pr l m).1 - aa))) + r - 1) / r))]) hF1 (by kernel_rfl) rfl (by decide) (by kernel_rfl) (fun _ => by kernel_rfl) ?_)
                        refine enterK 31 Try.func39 rfl rfl rfl ?_
                        intro a2 hF2 QR85 hR85 hNR85
                        refine wp_seq_k fun K86 hK86 => ?_
                        refine rT 22 (by kernel_rfl) (by kernel_rfl) hM.drew ?_
                        refine eQ 4 (v0 := .pointer (some ⟨bb10, 0, none⟩)) (v := .pointer (some ⟨bb10, 0, none⟩)) hF2 (by kernel_rfl) (fun _ => by kernel_rfl) rfl fun a2 hF2 => ?_
                        refine eQ 5 (v0 := .pointer (some ⟨bb10, 0, none⟩)) (v := .pointer (some ⟨bb10, 0, none⟩)) hF2 (by kernel_rfl) (fun _ => by kernel_rfl) rfl fun a2 hF2 => ?_
                        refine eQ 6 (v0 := .pointer (some ⟨bb10, 2, none⟩)) (v := .pointer (some ⟨bb10, 2, none⟩)) hF2 (by kernel_rfl) (fun _ => by kernel_rfl) rfl fun a2 hF2 => ?_
                        refine eQ 7 (v0 := .pointer (some ⟨bb10, 3, none⟩)) (v := .pointer (some ⟨bb10, 3, none⟩)) hF2 (by kernel_rfl) (fun _ => by kernel_rfl) rfl fun a2 hF2 => ?_
                        refine eQL 8 13 3 (v := .int .i64 (min 0 (bl + r * ((pr l m).1 - aa)))) hF2 (by kernel_rfl) rfl rfl (by kernel_rfl) (by kernel_rfl) fun a2 hF2 => ?_
                        refine eQ 9 (v0 := .pointer (some ⟨bb10, 0, none⟩)) (v := .pointer (some ⟨bb10, 0, none⟩)) hF2 (by kernel_rfl) (fun _ => by kernel_rfl) rfl fun a2 hF2 => ?_
                        refine eQ 10 (v0 := .pointer (some ⟨bb10, 0, none⟩)) (v := .pointer (some ⟨bb10, 0, none⟩)) hF2 (by kernel_rfl) (fun _ => by kernel_rfl) rfl fun a2 hF2 => ?_
                        refine eQ 11 (v0 := .pointer (some ⟨bb10, 0, none⟩)) (v := .pointer (some ⟨bb10, 0, none⟩)) hF2 (by kernel_rfl) (fun _ => by kernel_rfl) rfl fun a2 hF2 => ?_
                        refine eQ 12 (v0 := .pointer (some ⟨bb10, 0, none⟩)) (v := .pointer (some ⟨bb10, 0, none⟩)) hF2 (by kernel_rfl) (fun _ => by kernel_rfl) rfl fun a2 hF2 => ?_
                        refine eQL 13 13 0 (v := .int .i64 r) hF2 (by kernel_rfl) rfl rfl (by kernel_rfl) (by kernel_rfl) fun a2 hF2 => ?_
                        refine eQ 14 (v0 := .int .i64 (max (nt free m) ((pr l m).1 + (max 0 (-min 0 (bl + r * ((pr l m).1 - aa))) + r - 1) / r))) (v := .int .i64 (max (nt free m) ((pr l m).1 + (max 0 (-min 0 (bl + r * ((pr l m).1 - aa))) + r - 1) / r))) hF2 (by kernel_rfl) (fun _ => by kernel_rfl) rfl fun a2 hF2 => ?_
                        refine eQ 15 (v0 := .pointer (some ⟨bb10, 0, none⟩)) (v := .pointer (some ⟨bb10, 0, none⟩)) hF2 (by kernel_rfl) (fun _ => by kernel_rfl) rfl fun a2 hF2 => ?_
                        refine eQ 16 (v0 := .pointer (some ⟨bb10, 0, none⟩)) (v := .pointer (some ⟨bb10, 0, none⟩)) hF2 (by kernel_rfl) (fun _ => by kernel_rfl) rfl fun a2 hF2 => ?_
                        refine eQ 17 (v0 := .pointer (some ⟨bb10, 2, none⟩)) (v := .pointer (some ⟨bb10, 2, none⟩)) hF2 (by kernel_rfl) (fun _ => by kernel_rfl) rfl fun a2 hF2 => ?_
                        refine eQ 18 (v0 := .pointer (some ⟨bb10, 2, none⟩)) (v := .pointer (some ⟨bb10, 2, none⟩)) hF2 (by kernel_rfl) (fun _ => by kernel_rfl) rfl fun a2 hF2 => ?_
                        refine eQL 19 13 2 (v := .int .i64 (pr l m).1) hF2 (by kernel_rfl) rfl rfl (by kernel_rfl) (by kernel_rfl) fun a2 hF2 => ?_
                        refine eQ 20 (v0 := .int .i64 (IntKind.i64.wrap (max (nt free m) ((pr l m).1 + (max 0 (-min 0 (bl + r * ((pr l m).1 - aa))) + r - 1) / r) - (pr l m).1))) (v := .int .i64 (max (nt free m) ((pr l m).1 + (max 0 (-min 0 (bl + r * ((pr l m).1 - aa))) + r - 1) / r) - (pr l m).1)) hF2 (by kernel_rfl) (fun _ => by kernel_rfl) (wi (by omega)) fun a2 hF2 => ?_
                        have hz29 : 0 ≤ r * (max (nt free m) ((pr l m).1 + (max 0 (-min 0 (bl + r * ((pr l m).1 - aa))) + r - 1) / r) - (pr l m).1) ∧ r * (max (nt free m) ((pr l m).1 + (max 0 (-min 0 (bl + r * ((pr l m).1 - aa))) + r - 1) / r) - (pr l m).1) ≤ 2822443652612100 := mul_bd (1) (1048575) (0) (2691694588) (by omega) (by omega) (by omega) (by omega) (by decide)
                        refine eQ 21 (v0 := .int .i64 (IntKind.i64.wrap (r * (max (nt free m) ((pr l m).1 + (max 0 (-min 0 (bl + r * ((pr l m).1 - aa))) + r - 1) / r) - (pr l m).1)))) (v := .int .i64 (r * (max (nt free m) ((pr l m).1 + (max 0 (-min 0 (bl + r * ((pr l m).1 - aa))) + r - 1) / r) - (pr l m).1))) hF2 (by kernel_rfl) (fun _ => by kernel_rfl) (wi (by omega)) fun a2 hF2 => ?_
                        refine eQ 22 (v0 := .int .i64 (IntKind.i64.wrap (min 0 (bl + r * ((pr l m).1 - aa)) + r * (max (nt free m) ((pr l m).1 + (max 0 (-min 0 (bl + r * ((pr l m).1 - aa))) + r - 1) / r) - (pr l m).1)))) (v := .int .i64 (min 0 (bl + r * ((pr l m).1 - aa)) + r * (max (nt free m) ((pr l m).1 + (max 0 (-min 0 (bl + r * ((pr l m).1 - aa))) + r - 1) / r) - (pr l m).1))) hF2 (by kernel_rfl) (fun _ => by kernel_rfl) (wi (by omega)) fun a2 hF2 => ?_
                        refine eQ 23 (v0 := .pointer (some ⟨bb10, 0, none⟩)) (v := .pointer (some ⟨bb10, 0, none⟩)) hF2 (by kernel_rfl) (fun _ => by kernel_rfl) rfl fun a2 hF2 => ?_
                        refine eQ 24 (v0 := .pointer (some ⟨bb10, 2, none⟩)) (v := .pointer (some ⟨bb10, 2, none⟩)) hF2 (by kernel_rfl) (fun _ => by kernel_rfl) rfl fun a2 hF2 => ?_
                        refine eQ 25 (v0 := .pointer (some ⟨bb10, 3, none⟩)) (v := .pointer (some ⟨bb10, 3, none⟩)) hF2 (by kernel_rfl) (fun _ => by kernel_rfl) rfl fun a2 hF2 => ?_
                        refine wpQuiet_nil ?_
                        intro w hM
                        refine wl (sStore (i := 13) (off := 3) (cs' := #[.int .i64 r, .int .i64 p, .int .i64 (pr l m).1, .int .i64 (min 0 (bl + r * ((pr l m).1 - aa)) + r * (max (nt free m) ((pr l m).1 + (max 0 (-min 0 (bl + r * ((pr l m).1 - aa))) + r - 1) / r) - (pr l m).1))]) hF2 hM (by kernel_rfl) rfl rfl (by kernel_rfl) (by kernel_rfl) rfl (by kernel_rfl) fun w hM => ?_)
                        refine wpList_nil ?_
                        refine hK86 _ _ ?_
                        refine wp_region_lit ?_
                        refine sB 5 [(26, .pointer (some ⟨bb10, 0, none⟩)), (27, .int .i64 (max (nt free m) ((pr l m).1 + (max 0 (-min 0 (bl + r * ((pr l m).1 - aa))) + r - 1) / r))), (28, .pointer (some ⟨bb10, 0, none⟩)), (29, .pointer (some ⟨bb10, 2, none⟩)), (30, .pointer (some ⟨bb10, 2, none⟩))] hF2 (by kernel_rfl) fun a2 hF2 => ?_
                        refine wl (sStore (i := 13) (off := 2) (cs' := #[.int .i64 r, .int .i64 p, .int .i64 (max (nt free m) ((pr l m).1 + (max 0 (-min 0 (bl + r * ((pr l m).1 - aa))) + r - 1) / r)), .int .i64 (min 0 (bl + r * ((pr l m).1 - aa)) + r * (max (nt free m) ((pr l m).1 + (max 0 (-min 0 (bl + r * ((pr l m).1 - aa))) + r - 1) / r) - (pr l m).1))]) hF2 hM (by kernel_rfl) rfl rfl (by kernel_rfl) (by kernel_rfl) rfl (by kernel_rfl) fun w hM => ?_)
                        refine wpList_nil ?_
                        refine hNR85 _ _ ?_
                        refine ret_ofN hF2 hM (.nil) ⟨_, rfl, ?_⟩
                        intro a1 hF1
                        refine wpList_nil ?_
                        refine hK84 _ _ ?_
                        refine wp_seq_k fun K87 hK87 => ?_
                        refine wp_region_lit ?_
                        refine sB 2 [(32, .func (.func 40) #[.pointer (some ⟨bb10, 0, none⟩)] #[]), (33, .int .i64 (pr l m).2)] hF1 (by kernel_rfl) fun a1 hF1 => ?_
                        refine wl (sC (f := 40) (args := #[.pointer (some ⟨bb10, 0, none⟩), .int .i64 (pr l m).2]) hF1 (by kernel_rfl) rfl (by decide) (by kernel_rfl) (fun _ => by kernel_rfl) ?_)
                        refine enterK 43 Try.func40 rfl rfl rfl ?_
                        intro a2 hF2 QR88 hR88 hNR88
                        refine wp_seq_k fun K89 hK89 => ?_
                        refine rT 23 (by kernel_rfl) (by kernel_rfl) hM.drew ?_
                        refine eQ 4 (v0 := .pointer (some ⟨bb10, 0, none⟩)) (v := .pointer (some ⟨bb10, 0, none⟩)) hF2 (by kernel_rfl) (fun _ => by kernel_rfl) rfl fun a2 hF2 => ?_
                        refine eQ 5 (v0 := .pointer (some ⟨bb10, 0, none⟩)) (v := .pointer (some ⟨bb10, 0, none⟩)) hF2 (by kernel_rfl) (fun _ => by kernel_rfl) rfl fun a2 hF2 => ?_
                        refine eQ 6 (v0 := .pointer (some ⟨bb10, 2, none⟩)) (v := .pointer (some ⟨bb10, 2, none⟩)) hF2 (by kernel_rfl) (fun _ => by kernel_rfl) rfl fun a2 hF2 => ?_
                        refine eQ 7 (v0 := .pointer (some ⟨bb10, 3, none⟩)) (v := .pointer (some ⟨bb10, 3, none⟩)) hF2 (by kernel_rfl) (fun _ => by kernel_rfl) rfl fun a2 hF2 => ?_
                        refine eQL 8 13 3 (v := .int .i64 (min 0 (bl + r * ((pr l m).1 - aa)) + r * (max (nt free m) ((pr l m).1 + (max 0 (-min 0 (bl + r * ((pr l m).1 - aa))) + r - 1) / r) - (pr l m).1))) hF2 (by kernel_rfl) rfl rfl (by kernel_rfl) (by kernel_rfl) fun a2 hF2 => ?_
                        refine eQ 9 (v0 := .pointer (some ⟨bb10, 0, none⟩)) (v := .pointer (some ⟨bb10, 0, none⟩)) hF2 (by kernel_rfl) (fun _ => by kernel_rfl) rfl fun a2 hF2 => ?_
                        refine eQ 10 (v0 := .pointer (some ⟨bb10, 0, none⟩)) (v := .pointer (some ⟨bb10, 0, none⟩)) hF2 (by kernel_rfl) (fun _ => by kernel_rfl) rfl fun a2 hF2 => ?_
                        refine eQ 11 (v0 := .pointer (some ⟨bb10, 0, none⟩)) (v := .pointer (some ⟨bb10, 0, none⟩)) hF2 (by kernel_rfl) (fun _ => by kernel_rfl) rfl fun a2 hF2 => ?_
                        refine eQ 12 (v0 := .pointer (some ⟨bb10, 0, none⟩)) (v := .pointer (some ⟨bb10, 0, none⟩)) hF2 (by kernel_rfl) (fun _ => by kernel_rfl) rfl fun a2 hF2 => ?_
                        refine eQL 13 13 0 (v := .int .i64 r) hF2 (by kernel_rfl) rfl rfl (by kernel_rfl) (by kernel_rfl) fun a2 hF2 => ?_
                        refine eQ 14 (v0 := .pointer (some ⟨bb10, 0, none⟩)) (v := .pointer (some ⟨bb10, 0, none⟩)) hF2 (by kernel_rfl) (fun _ => by kernel_rfl) rfl fun a2 hF2 => ?_
                        refine eQ 15 (v0 := .pointer (some ⟨bb10, 0, none⟩)) (v := .pointer (some ⟨bb10, 0, none⟩)) hF2 (by kernel_rfl) (fun _ => by kernel_rfl) rfl fun a2 hF2 => ?_
                        refine eQ 16 (v0 := .pointer (some ⟨bb10, 0, none⟩)) (v := .pointer (some ⟨bb10, 0, none⟩)) hF2 (by kernel_rfl) (fun _ => by kernel_rfl) rfl fun a2 hF2 => ?_
                        refine eQ 17 (v0 := .pointer (some ⟨bb10, 1, none⟩)) (v := .pointer (some ⟨bb10, 1, none⟩)) hF2 (by kernel_rfl) (fun _ => by kernel_rfl) rfl fun a2 hF2 => ?_
                        refine eQL 18 13 1 (v := .int .i64 p) hF2 (by kernel_rfl) rfl rfl (by kernel_rfl) (by kernel_rfl) fun a2 hF2 => ?_
                        have hz30 : 1 ≤ r * p ∧ r * p ≤ 1048575000 := mul_bd (1) (1048575) (1) (1000) (by omega) (by omega) (by omega) (by omega) (by decide)
                        refine eQ 19 (v0 := .int .i64 (IntKind.i64.wrap (r * p))) (v := .int .i64 (r * p)) hF2 (by kernel_rfl) (fun _ => by kernel_rfl) (wi (by omega)) fun a2 hF2 => ?_
                        refine eQ 20 (v0 := .int .i64 (IntKind.i64.wrap (r * p - 1048576))) (v := .int .i64 (r * p - 1048576)) hF2 (by kernel_rfl) (fun _ => by kernel_rfl) (wi (by omega)) fun a2 hF2 => ?_
                        refine eQ 21 (v0 := .int .i64 (pr l m).2) (v := .int .i64 (pr l m).2) hF2 (by kernel_rfl) (fun _ => by kernel_rfl) rfl fun a2 hF2 => ?_
                        have hz31 : -1616902650 ≤ (r * p - 1048576) * (pr l m).2 ∧ (r * p - 1048576) * (pr l m).2 ≤ -1 := mul_bd (-1048575) (-1) (1) (1542) (by omega) (by omega) (by omega) (by omega) (by decide)
                        refine eQ 22 (v0 := .int .i64 (IntKind.i64.wrap ((r * p - 1048576) * (pr l m).2))) (v := .int .i64 ((r * p - 1048576) * (pr l m).2)) hF2 (by kernel_rfl) (fun _ => by kernel_rfl) (wi (by omega)) fun a2 hF2 => ?_
                        refine eQ 23 (v0 := .int .i64 (IntKind.i64.wrap (min 0 (bl + r * ((pr l m).1 - aa)) + r * (max (nt free m) ((pr l m).1 + (max 0 (-min 0 (bl + r * ((pr l m).1 - aa))) + r - 1) / r) - (pr l m).1) + (r * p - 1048576) * (pr l m).2))) (v := .int .i64 (min 0 (bl + r * ((pr l m).1 - aa)) + r * (max (nt free m) ((pr l m).1 + (max 0 (-min 0 (bl + r * ((pr l m).1 - aa))) + r - 1) / r) - (pr l m).1) + (r * p - 1048576) * (pr l m).2)) hF2 (by kernel_rfl) (fun _ => by kernel_rfl) (wi (by omega)) fun a2 hF2 => ?_
                        refine eQ 24 (v0 := .pointer (some ⟨bb10, 0, none⟩)) (v := .pointer (some ⟨bb10, 0, none⟩)) hF2 (by kernel_rfl) (fun _ => by kernel_rfl) rfl fun a2 hF2 => ?_
                        refine eQ 25 (v0 := .pointer (some ⟨bb10, 2, none⟩)) (v := .pointer (some ⟨bb10, 2, none⟩)) hF2 (by kernel_rfl) (fun _ => by kernel_rfl) rfl fun a2 hF2 => ?_
                        refine eQ 26 (v0 := .pointer (some ⟨bb10, 3, none⟩)) (v := .pointer (some ⟨bb10, 3, none⟩)) hF2 (by kernel_rfl) (fun _ => by kernel_rfl) rfl fun a2 hF2 => ?_
                        refine wpQuiet_nil ?_
                        intro w hM
                        refine wl (sStore (i := 13) (off := 3) (cs' := #[.int .i64 r, .int .i64 p, .int .i64 (max (nt free m) ((pr l m).1 + (max 0 (-min 0 (bl + r * ((pr l m).1 - aa))) + r - 1) / r)), .int .i64 (min 0 (bl + r * ((pr l m).1 - aa)) + r * (max (nt free m) ((pr l m).1 + (max 0 (-min 0 (bl + r * ((pr l m).1 - aa))) + r - 1) / r) - (pr l m).1) + (r * p - 1048576) * (pr l m).2)]) hF2 hM (by kernel_rfl) rfl rfl (by kernel_rfl) (by kernel_rfl) rfl (by kernel_rfl) fun w hM => ?_)
                        refine wpList_nil ?_
                        refine hK89 _ _ ?_
                        refine rT 16 (by kernel_rfl) (by kernel_rfl) hM.drew ?_
                        refine eQ 27 (v0 := .pointer (some ⟨bb10, 0, none⟩)) (v := .pointer (some ⟨bb10, 0, none⟩)) hF2 (by kernel_rfl) (fun _ => by kernel_rfl) rfl fun a2 hF2 => ?_
                        refine eQ 28 (v0 := .pointer (some ⟨bb10, 0, none⟩)) (v := .pointer (some ⟨bb10, 0, none⟩)) hF2 (by kernel_rfl) (fun _ => by kernel_rfl) rfl fun a2 hF2 => ?_
                        refine eQ 29 (v0 := .pointer (some ⟨bb10, 2, none⟩)) (v := .pointer (some ⟨bb10, 2, none⟩)) hF2 (by kernel_rfl) (fun _ => by kernel_rfl) rfl fun a2 hF2 => ?_
                        refine eQ 30 (v0 := .pointer (some ⟨bb10, 2, none⟩)) (v := .pointer (some ⟨bb10, 2, none⟩)) hF2 (by kernel_rfl) (fun _ => by kernel_rfl) rfl fun a2 hF2 => ?_
                        refine eQL 31 13 2 (v := .int .i64 (max (nt free m) ((pr l m).1 + (max 0 (-min 0 (bl + r * ((pr l m).1 - aa))) + r - 1) / r))) hF2 (by kernel_rfl) rfl rfl (by kernel_rfl) (by kernel_rfl) fun a2 hF2 => ?_
                        refine eQ 32 (v0 := .int .i64 (pr l m).2) (v := .int .i64 (pr l m).2) hF2 (by kernel_rfl) (fun _ => by kernel_rfl) rfl fun a2 hF2 => ?_
                        refine eQ 33 (v0 := .pointer (some ⟨bb10, 0, none⟩)) (v := .pointer (some ⟨bb10, 0, none⟩)) hF2 (by kernel_rfl) (fun _ => by kernel_rfl) rfl fun a2 hF2 => ?_
                        refine eQ 34 (v0 := .pointer (some ⟨bb10, 0, none⟩)) (v := .pointer (some ⟨bb10, 0, none⟩)) hF2 (by kernel_rfl) (fun _ => by kernel_rfl) rfl fun a2 hF2 => ?_
                        refine eQ 35 (v0 := .pointer (some ⟨bb10, 0, none⟩)) (v := .pointer (some ⟨bb10, 0, none⟩)) hF2 (by kernel_rfl) (fun _ => by kernel_rfl) rfl fun a2 hF2 => ?_
                        refine eQ 36 (v0 := .pointer (some ⟨bb10, 1, none⟩)) (v := .pointer (some ⟨bb10, 1, none⟩)) hF2 (by kernel_rfl) (fun _ => by kernel_rfl) rfl fun a2 hF2 => ?_
                        refine eQL 37 13 1 (v := .int .i64 p) hF2 (by kernel_rfl) rfl rfl (by kernel_rfl) (by kernel_rfl) fun a2 hF2 => ?_
                        have hz32 : 1 ≤ (pr l m).2 * p ∧ (pr l m).2 * p ≤ 1542000 := mul_bd (1) (1542) (1) (1000) (by omega) (by omega) (by omega) (by omega) (by decide)
                        refine eQ 38 (v0 := .int .i64 (IntKind.i64.wrap ((pr l m).2 * p))) (v := .int .i64 ((pr l m).2 * p)) hF2 (by kernel_rfl) (fun _ => by kernel_rfl) (wi (by omega)) fun a2 hF2 => ?_
                        refine eQ 39 (v0 := .int .i64 (IntKind.i64.wrap (max (nt free m) ((pr l m).1 + (max 0 (-min 0 (bl + r * ((pr l m).1 - aa))) + r - 1) / r) + (pr l m).2 * p))) (v := .int .i64 (max (nt free m) ((pr l m).1 + (max 0 (-min 0 (bl + r * ((pr l m).1 - aa))) + r - 1) / r) + (pr l m).2 * p)) hF2 (by kernel_rfl) (fun _ => by kernel_rfl) (wi (by omega)) fun a2 hF2 => ?_
                        refine eQ 40 (v0 := .pointer (some ⟨bb10, 0, none⟩)) (v := .pointer (some ⟨bb10, 0, none⟩)) hF2 (by kernel_rfl) (fun _ => by kernel_rfl) rfl fun a2 hF2 => ?_
                        refine eQ 41 (v0 := .pointer (some ⟨bb10, 2, none⟩)) (v := .pointer (some ⟨bb10, 2, none⟩)) hF2 (by kernel_rfl) (fun _ => by kernel_rfl) rfl fun a2 hF2 => ?_
                        refine eQ 42 (v0 := .pointer (some ⟨bb10, 2, none⟩)) (v := .pointer (some ⟨bb10, 2, none⟩)) hF2 (by kernel_rfl) (fun _ => by kernel_rfl) rfl fun a2 hF2 => ?_
                        refine wpQuiet_nil ?_
                        intro w hM
                        refine wl (sStore (i := 13) (off := 2) (cs' := #[.int .i64 r, .int .i64 p, .int .i64 (max (nt free m) ((pr l m).1 + (max 0 (-min 0 (bl + r * ((pr l m).1 - aa))) + r - 1) / r) + (pr l m).2 * p), .int .i64 (min 0 (bl + r * ((pr l m).1 - aa)) + r * (max (nt free m) ((pr l m).1 + (max 0 (-min 0 (bl + r * ((pr l m).1 - aa))) + r - 1) / r) - (pr l m).1) + (r * p - 1048576) * (pr l m).2)]) hF2 hM (by kernel_rfl) rfl rfl (by kernel_rfl) (by kernel_rfl) rfl (by kernel_rfl) fun w hM => ?_)
                        refine wpList_nil ?_
                        refine hNR88 _ _ ?_
                        refine ret_ofN hF2 hM (.nil) ⟨_, rfl, ?_⟩
                        intro a1 hF1
                        refine wpList_nil ?_
                        refine hK87 _ _ ?_
                        refine wp_seq_k fun K90 hK90 => ?_
                        refine rT 4 (by kernel_rfl) (by kernel_rfl) hM.drew ?_
                        refine eQ 35 (v0 := .int .i64 (max (nt free m) ((pr l m).1 + (max 0 (-min 0 (bl + r * ((pr l m).1 - aa))) + r - 1) / r))) (v := .int .i64 (max (nt free m) ((pr l m).1 + (max 0 (-min 0 (bl + r * ((pr l m).1 - aa))) + r - 1) / r))) hF1 (by kernel_rfl) (fun _ => by kernel_rfl) rfl fun a1 hF1 => ?_
                        refine eQ 36 (v0 := .pointer (some ⟨bb10, 2, none⟩)) (v := .pointer (some ⟨bb10, 2, none⟩)) hF1 (by kernel_rfl) (fun _ => by kernel_rfl) rfl fun a1 hF1 => ?_
                        refine eQL 37 13 2 (v := .agg #[.int .i64 (max (nt free m) ((pr l m).1 + (max 0 (-min 0 (bl + r * ((pr l m).1 - aa))) + r - 1) / r) + (pr l m).2 * p), .int .i64 (min 0 (bl + r * ((pr l m).1 - aa)) + r * (max (nt free m) ((pr l m).1 + (max 0 (-min 0 (bl + r * ((pr l m).1 - aa))) + r - 1) / r) - (pr l m).1) + (r * p - 1048576) * (pr l m).2)]) hF1 (by kernel_rfl) rfl rfl (by kernel_rfl) (by kernel_rfl) fun a1 hF1 => ?_
                        refine eQ 10 (v0 := .int .i64 (max (nt free m) ((pr l m).1 + (max 0 (-min 0 (bl + r * ((pr l m).1 - aa))) + r - 1) / r))) (v := .int .i64 (max (nt free m) ((pr l m).1 + (max 0 (-min 0 (bl + r * ((pr l m).1 - aa))) + r - 1) / r))) hF1 (by kernel_rfl) (fun _ => by kernel_rfl) rfl fun a1 hF1 => ?_
                        refine wpQuiet_nil ?_
                        intro w hM
                        refine wl (sStore (i := 12) (off := 0) (cs' := #[.int .i64 (max (nt free m) ((pr l m).1 + (max 0 (-min 0 (bl + r * ((pr l m).1 - aa))) + r - 1) / r) + (pr l m).2 * p), .int .i64 (min 0 (bl + r * ((pr l m).1 - aa)) + r * (max (nt free m) ((pr l m).1 + (max 0 (-min 0 (bl + r * ((pr l m).1 - aa))) + r - 1) / r) - (pr l m).1) + (r * p - 1048576) * (pr l m).2)]) hF1 hM (by kernel_rfl) rfl rfl (by kernel_rfl) (by kernel_rfl) rfl (by kernel_rfl) fun w hM => ?_)
                        refine wpList_nil ?_
                        refine hK90 _ _ ?_
                        refine wp_ret ?_
                        refine hR52 _ _ ?_
                        refine ret_of hF1 hM (.tmp rfl (.cell (i := 12) rfl rfl (v := .agg #[.int .i64 (max (nt free m) ((pr l m).1 + (max 0 (-min 0 (bl + r * ((pr l m).1 - aa))) + r - 1) / r) + (pr l m).2 * p), .int .i64 (min 0 (bl + r * ((pr l m).1 - aa)) + r * (max (nt free m) ((pr l m).1 + (max 0 (-min 0 (bl + r * ((pr l m).1 - aa))) + r - 1) / r) - (pr l m).1) + (r * p - 1048576) * (pr l m).2)]) (by kernel_rfl) (.nil))) ⟨_, rfl, ?_⟩
                        intro a hF
                        refine sB 2 [(92, .int .i64 (max (nt free m) ((pr l m).1 + (max 0 (-min 0 (bl + r * ((pr l m).1 - aa))) + r - 1) / r))), (93, .agg #[.int .i64 (max (nt free m) ((pr l m).1 + (max 0 (-min 0 (bl + r * ((pr l m).1 - aa))) + r - 1) / r) + (pr l m).2 * p), .int .i64 (min 0 (bl + r * ((pr l m).1 - aa)) + r * (max (nt free m) ((pr l m).1 + (max 0 (-min 0 (bl + r * ((pr l m).1 - aa))) + r - 1) / r) - (pr l m).1) + (r * p - 1048576) * (pr l m).2)])] hF (by kernel_rfl) fun a hF => ?_
                        refine wl (sC (f := 28) (args := #[.int .i64 (max (nt free m) ((pr l m).1 + (max 0 (-min 0 (bl + r * ((pr l m).1 - aa))) + r - 1) / r)), .agg #[.int .i64 (max (nt free m) ((pr l m).1 + (max 0 (-min 0 (bl + r * ((pr l m).1 - aa))) + r - 1) / r) + (pr l m).2 * p), .int .i64 (min 0 (bl + r * ((pr l m).1 - aa)) + r * (max (nt free m) ((pr l m).1 + (max 0 (-min 0 (bl + r * ((pr l m).1 - aa))) + r - 1) / r) - (pr l m).1) + (r * p - 1048576) * (pr l m).2)], .pointer (some ⟨bb4, 0, none⟩), .pointer (some ⟨bb5, 0, none⟩)]) hF (by kernel_rfl) rfl (by decide) (by kernel_rfl) (fun _ => by kernel_rfl) ?_)
                        refine enterK 15 Try.func28 rfl rfl rfl ?_
                        intro a1 hF1 QR91 hR91 hNR91
                        refine wp_seq_k fun K92 hK92 => ?_
                        refine wp_region_lit ?_
                        refine wl (eN 5 16 (t := 40) (fun b => .pointer (some ⟨b, 0, none⟩)) #[.int .i64 (max (nt free m) ((pr l m).1 + (max 0 (-min 0 (bl + r * ((pr l m).1 - aa))) + r - 1) / r) + (pr l m).2 * p), .int .i64 (min 0 (bl + r * ((pr l m).1 - aa)) + r * (max (nt free m) ((pr l m).1 + (max 0 (-min 0 (bl + r * ((pr l m).1 - aa))) + r - 1) / r) - (pr l m).1) + (r * p - 1048576) * (pr l m).2)] hF1 hM (by kernel_rfl) (fun _ => by kernel_rfl) fun bb14 a1 w hF1 hM => ?_)
                        refine sB 1 [(6, .bool false)] hF1 (by kernel_rfl) fun a1 hF1 => ?_
                        refine wpList_nil ?_
                        refine hK92 _ _ ?_
                        refine wp_seq_k fun K93 hK93 => ?_
                        refine wp_region_lit ?_
                        refine wl (eL 7 6 0 (v := .slice G m gc) hF1 hM (by kernel_rfl) rfl rfl (by kernel_rfl) (by kernel_rfl) fun a1 w hF1 hM => ?_)
                        refine sB 1 [(8, .int .i64 (max (nt free m) ((pr l m).1 + (max 0 (-min 0 (bl + r * ((pr l m).1 - aa))) + r - 1) / r)))] hF1 (by kernel_rfl) fun a1 hF1 => ?_
                        refine wl (eN 9 17 (t := 3) (fun b => .slice (some ⟨b, 0, none⟩) 1 1) #[.int .i64 (max (nt free m) ((pr l m).1 + (max 0 (-min 0 (bl + r * ((pr l m).1 - aa))) + r - 1) / r))] hF1 hM (by kernel_rfl) (fun _ => by kernel_rfl) fun bb15 a1 w hF1 hM => ?_)
                        refine wl (sApp 10 8 (e := 3) (size := 1) (bytes := 8) (z := .int .i64 0) (m := 1) (c := 1) (l := m) (cap := gc) (A := G) (news := [.int .i64 (max (nt free m) ((pr l m).1 + (max 0 (-min 0 (bl + r * ((pr l m).1 - aa))) + r - 1) / r))]) ((got ++ [max (nt free m) ((pr l m).1 + (max 0 (-min 0 (bl + r * ((pr l m).1 - aa))) + r - 1) / r)]).map (Value.int .i64)) hF1 hM (by kernel_rfl) rfl (by kernel_rfl) (by kernel_rfl) (by kernel_rfl) rfl rfl rfl rfl (roR 17 rfl) (by simp [Value.oneCell']) (by omega) (by decide) (map_snoc' _ _ _) fun AA16 cc16 a1 w hF1 hM => ?_)
                        refine wl (sStore (i := 6) (off := 0) (cs' := #[.slice AA16 (m + 1) cc16]) hF1 hM (by kernel_rfl) rfl rfl (by kernel_rfl) (by kernel_rfl) rfl (by kernel_rfl) fun w hM => ?_)
                        refine wpList_nil ?_
                        refine hK93 _ _ ?_
                        refine wp_seq_k fun K94 hK94 => ?_
                        refine wp_region_lit ?_
                        refine wl (eL 11 16 0 (v := .agg #[.int .i64 (max (nt free m) ((pr l m).1 + (max 0 (-min 0 (bl + r * ((pr l m).1 - aa))) + r - 1) / r) + (pr l m).2 * p), .int .i64 (min 0 (bl + r * ((pr l m).1 - aa)) + r * (max (nt free m) ((pr l m).1 + (max 0 (-min 0 (bl + r * ((pr l m).1 - aa))) + r - 1) / r) - (pr l m).1) + (r * p - 1048576) * (pr l m).2)]) hF1 hM (by kernel_rfl) rfl rfl (by kernel_rfl) (by kernel_rfl) fun a1 w hF1 hM => ?_)
                        refine wl (sStore (i := 7) (off := 0) (cs' := #[.int .i64 (max (nt free m) ((pr l m).1 + (max 0 (-min 0 (bl + r * ((pr l m).1 - aa))) + r - 1) / r) + (pr l m).2 * p), .int .i64 (min 0 (bl + r * ((pr l m).1 - aa)) + r * (max (nt free m) ((pr l m).1 + (max 0 (-min 0 (bl + r * ((pr l m).1 - aa))) + r - 1) / r) - (pr l m).1) + (r * p - 1048576) * (pr l m).2)]) hF1 hM (by kernel_rfl) rfl rfl (by kernel_rfl) (by kernel_rfl) rfl (by kernel_rfl) fun w hM => ?_)
                        refine wpList_nil ?_
                        refine hK94 _ _ ?_
                        refine wp_seq_k fun K95 hK95 => ?_
                        refine wp_region_lit ?_
                        refine wl (eL 12 16 0 (v := .agg #[.int .i64 (max (nt free m) ((pr l m).1 + (max 0 (-min 0 (bl + r * ((pr l m).1 - aa))) + r - 1) / r) + (pr l m).2 * p), .int .i64 (min 0 (bl + r * ((pr l m).1 - aa)) + r * (max (nt free m) ((pr l m).1 + (max 0 (-min 0 (bl + r * ((pr l m).1 - aa))) + r - 1) / r) - (pr l m).1) + (r * p - 1048576) * (pr l m).2)]) hF1 hM (by kernel_rfl) rfl rfl (by kernel_rfl) (by kernel_rfl) fun a1 w hF1 hM => ?_)
                        refine wl (eM 13 (v := .int .i64 (stateE (max (nt free m) ((pr l m).1 + (max 0 (-min 0 (bl + r * ((pr l m).1 - aa))) + r - 1) / r) + (pr l m).2 * p) (min 0 (bl + r * ((pr l m).1 - aa)) + r * (max (nt free m) ((pr l m).1 + (max 0 (-min 0 (bl + r * ((pr l m).1 - aa))) + r - 1) / r) - (pr l m).1) + (r * p - 1048576) * (pr l m).2))) hF1 hM (by kernel_rfl) (yld_call (f := 18) (args := #[.agg #[.int .i64 (max (nt free m) ((pr l m).1 + (max 0 (-min 0 (bl + r * ((pr l m).1 - aa))) + r - 1) / r) + (pr l m).2 * p), .int .i64 (min 0 (bl + r * ((pr l m).1 - aa)) + r * (max (nt free m) ((pr l m).1 + (max 0 (-min 0 (bl + r * ((pr l m).1 - aa))) + r - 1) / r) - (pr l m).1) + (r * p - 1048576) * (pr l m).2)]]) hF1 (by kernel_rfl) (fun _ => by kernel_rfl) (fun w hM => crState_w (max (nt free m) ((pr l m).1 + (max 0 (-min 0 (bl + r * ((pr l m).1 - aa))) + r - 1) / r) + (pr l m).2 * p) (min 0 (bl + r * ((pr l m).1 - aa)) + r * (max (nt free m) ((pr l m).1 + (max 0 (-min 0 (bl + r * ((pr l m).1 - aa))) + r - 1) / r) - (pr l m).1) + (r * p - 1048576) * (pr l m).2) w)) fun a1 w hF1 hM => ?_)
                        refine sB 2 [(14, .bool (decide (stateE (max (nt free m) ((pr l m).1 + (max 0 (-min 0 (bl + r * ((pr l m).1 - aa))) + r - 1) / r) + (pr l m).2 * p) (min 0 (bl + r * ((pr l m).1 - aa)) + r * (max (nt free m) ((pr l m).1 + (max 0 (-min 0 (bl + r * ((pr l m).1 - aa))) + r - 1) / r) - (pr l m).1) + (r * p - 1048576) * (pr l m).2) = 0))), (6, .bool (decide (stateE (max (nt free m) ((pr l m).1 + (max 0 (-min 0 (bl + r * ((pr l m).1 - aa))) + r - 1) / r) + (pr l m).2 * p) (min 0 (bl + r * ((pr l m).1 - aa)) + r * (max (nt free m) ((pr l m).1 + (max 0 (-min 0 (bl + r * ((pr l m).1 - aa))) + r - 1) / r) - (pr l m).1) + (r * p - 1048576) * (pr l m).2) = 0)))] hF1 (by kernel_rfl) fun a1 hF1 => ?_
                        refine wpList_nil ?_
                        refine hK95 _ _ ?_
                        refine wp_ret ?_
                        refine hR91 _ _ ?_
                        refine ret_of hF1 hM (.tmp rfl (.nil)) ⟨_, rfl, ?_⟩
                        intro a hF
                        refine sB 1 [(95, .bool (!decide (stateE (max (nt free m) ((pr l m).1 + (max 0 (-min 0 (bl + r * ((pr l m).1 - aa))) + r - 1) / r) + (pr l m).2 * p) (min 0 (bl + r * ((pr l m).1 - aa)) + r * (max (nt free m) ((pr l m).1 + (max 0 (-min 0 (bl + r * ((pr l m).1 - aa))) + r - 1) / r) - (pr l m).1) + (r * p - 1048576) * (pr l m).2) = 0)))] hF (by kernel_rfl) fun a hF => ?_
                        refine wpList_nil ?_
                        refine hK51 _ _ ?_
                        by_cases hz33 : stateE (max (nt free m) ((pr l m).1 + (max 0 (-min 0 (bl + r * ((pr l m).1 - aa))) + r - 1) / r) + (pr l m).2 * p) (min 0 (bl + r * ((pr l m).1 - aa)) + r * (max (nt free m) ((pr l m).1 + (max 0 (-min 0 (bl + r * ((pr l m).1 - aa))) + r - 1) / r) - (pr l m).1) + (r * p - 1048576) * (pr l m).2) = 0
                        · skip
                          have hz34 := stateE_ok hz33
                          replace hF := hF.c hF (i := 94) (v := .bool true) rfl (bT hz33)
                          replace hF := hF.c hF (i := 95) (v := .bool false) rfl (nT hz33)
                          refine cF hF (by kernel_rfl) (by kernel_rfl) ?_
                          refine wp_skip ?_
                          refine hK46 _ _ ?_
                          refine wp_region_lit ?_
                          refine wl (eP 97 (v0 := .int .i64 (IntKind.i64.wrap ((m : Int) + 1))) (v := .int .i64 ((m : Int) + 1)) hF (by kernel_rfl) (fun _ => by kernel_rfl) (wi (by omega)) fun a hF => ?_)
                          refine sB 1 [(70, .int .i64 ((m : Int) + 1))] hF (by kernel_rfl) fun a hF => ?_
                          refine wpList_nil ?_
                          have hfa : freeAt free m = nt free m := freeAt_in (nt_some (by omega))
                          have hst := step_gt (r := r) (p := p) (a := aa) (l := bl) (at_ := (pr l m).1) (free := nt free m) (size := (pr l m).2) hz21
                          have hA : stepAt r p aa bl (pr l m).1 (nt free m) (pr l m).2 = stepStart r aa bl (pr l m).1 (nt free m) + (pr l m).2 * p := rfl
                          have hL := hst.2
                          have hs1 : stepStart r aa bl (pr l m).1 (nt free m) = max (nt free m) ((pr l m).1 + (max 0 (-min 0 (bl + r * ((pr l m).1 - aa))) + r - 1) / r) := by first | exact hst.1 | (rw [hst.1]; omega)
                          rw [hs1] at hA hL
                          have hRN := runAt_next (t := (pr l m).1) (s := (pr l m).2) hRA (pr_some (by omega)) (by rw [hfa, hA, hL]; exact stateB_of hz33)
                          rw [hfa, hA, hL, hs1] at hRN
                          refine hK43 _ _ ⟨(m + 1, max (nt free m) ((pr l m).1 + (max 0 (-min 0 (bl + r * ((pr l m).1 - aa))) + r - 1) / r) + (pr l m).2 * p, min 0 (bl + r * ((pr l m).1 - aa)) + r * (max (nt free m) ((pr l m).1 + (max 0 (-min 0 (bl + r * ((pr l m).1 - aa))) + r - 1) / r) - (pr l m).1) + (r * p - 1048576) * (pr l m).2, got ++ [max (nt free m) ((pr l m).1 + (max 0 (-min 0 (bl + r * ((pr l m).1 - aa))) + r - 1) / r)], AA16, cc16), ⟨((((((((((Fr.nil hF).c hF (i := 69) rfl rfl).c hF (i := 68) rfl rfl).c hF (i := 17) rfl rfl).c hF (i := 16) rfl rfl).c hF (i := 15) rfl rfl).c hF (i := 7) rfl rfl).c hF (i := 3) rfl rfl).c hF (i := 2) rfl rfl).c hF (i := 70) rfl (vi (show ((m : Int) + 1 : Int) = ((m + 1) : Int) from by omega))), (hM.sub (((((((Sub.nil.c (k := 8) rfl rfl).c (k := 7) rfl rfl).c (k := 6) rfl rfl).c (k := 4) rfl rfl).c (k := 3) rfl rfl).c (k := 2) rfl rfl).c (k := 1) rfl rfl)), (show ((m + 1) : Int) ≤ (l.length : Int) from by omega), (show RunAt r p l free (m + 1) (got ++ [max (nt free m) ((pr l m).1 + (max 0 (-min 0 (bl + r * ((pr l m).1 - aa))) + r - 1) / r)]) (max (nt free m) ((pr l m).1 + (max 0 (-min 0 (bl + r * ((pr l m).1 - aa))) + r - 1) / r) + (pr l m).2 * p) (min 0 (bl + r * ((pr l m).1 - aa)) + r * (max (nt free m) ((pr l m).1 + (max 0 (-min 0 (bl + r * ((pr l m).1 - aa))) + r - 1) / r) - (pr l m).1) + (r * p - 1048576) * (pr l m).2) from by exact hRN)⟩, (show l.length - (m + 1) < l.length - m from by omega)⟩
                        · skip
                          replace hF := hF.c hF (i := 94) (v := .bool false) rfl (bF hz33)
                          replace hF := hF.c hF (i := 95) (v := .bool true) rfl (nF hz33)
                          refine cT hF (by kernel_rfl) (by kernel_rfl) ?_
                          refine wp_seq_k fun K96 hK96 => ?_
                          refine wp_region_lit ?_
                          refine sB 2 [(96, .agg #[.int .i64 0, .int .i64 0]), (6, .slice none 0 0)] hF (by kernel_rfl) fun a hF => ?_
                          refine wl (sStore (i := 4) (off := 0) (cs' := #[.int .i64 0, .int .i64 0]) hF hM (by kernel_rfl) rfl rfl (by kernel_rfl) (by kernel_rfl) rfl (by kernel_rfl) fun w hM => ?_)
                          refine sB 1 [(8, .int .i64 6)] hF (by kernel_rfl) fun a hF => ?_
                          refine wpList_nil ?_
                          refine hK96 _ _ ?_
                          refine wp_ret ?_
                          refine hR0 _ _ ?_
                          refine ret_of hF hM (.tmp rfl (.cell (i := 4) rfl rfl (v := .agg #[.int .i64 0, .int .i64 0]) (by kernel_rfl) (.tmp rfl (.nil)))) ?_
                          have hfa : freeAt free m = nt free m := freeAt_in (nt_some (by omega))
                          have hst := step_gt (r := r) (p := p) (a := aa) (l := bl) (at_ := (pr l m).1) (free := nt free m) (size := (pr l m).2) hz21
                          have hA : stepAt r p aa bl (pr l m).1 (nt free m) (pr l m).2 = stepStart r aa bl (pr l m).1 (nt free m) + (pr l m).2 * p := rfl
                          have hL := hst.2
                          have hs1 : stepStart r aa bl (pr l m).1 (nt free m) = max (nt free m) ((pr l m).1 + (max 0 (-min 0 (bl + r * ((pr l m).1 - aa))) + r - 1) / r) := by first | exact hst.1 | (rw [hst.1]; omega)
                          rw [hs1] at hA hL
                          exact runPost_err (runS_bad5 (slopeB_of hz1) (trB_of hz3) (by omega) (args_of hall hfree) (runAt_big (t := (pr l m).1) (s := (pr l m).2) hRA (pr_some (by omega)) (by rw [hfa, hA, hL]; exact stateB_not hz33))) (by decide) ⟨rfl, hM.bel⟩
                    · skip
                      replace hF := hF.c hF (i := 78) (v := .bool false) rfl (bF hz20)
                      refine cF hF (by kernel_rfl) (by kernel_rfl) ?_
                      refine wp_skip ?_
                      refine hK49 _ _ ?_
                      refine wp_seq_k fun K97 hK97 => ?_
                      refine wp_region_lit ?_
                      refine sB 1 [(83, .func (.func 28) #[] #[.pointer (some ⟨bb4, 0, none⟩), .pointer (some ⟨bb5, 0, none⟩)])] hF (by kernel_rfl) fun a hF => ?_
                      refine wl (eL 84 3 0 (v := .agg #[.int .i64 r, .int .i64 p]) hF hM (by kernel_rfl) rfl rfl (by kernel_rfl) (by kernel_rfl) fun a w hF hM => ?_)
                      refine wl (eL 85 7 0 (v := .agg #[.int .i64 aa, .int .i64 bl]) hF hM (by kernel_rfl) rfl rfl (by kernel_rfl) (by kernel_rfl) fun a w hF hM => ?_)
                      refine sB 1 [(86, .pointer (some ⟨bb6, 0, none⟩))] hF (by kernel_rfl) fun a hF => ?_
                      refine wl (eL 87 9 0 (v := .int .i64 (pr l m).1) hF hM (by kernel_rfl) rfl rfl (by kernel_rfl) (by kernel_rfl) fun a w hF hM => ?_)
                      refine sB 2 [(88, .int .i64 0), (89, .pointer (some ⟨bb6, 1, none⟩))] hF (by kernel_rfl) fun a hF => ?_
                      refine wl (eL 90 9 1 (v := .int .i64 (pr l m).2) hF hM (by kernel_rfl) rfl rfl (by kernel_rfl) (by kernel_rfl) fun a w hF hM => ?_)
                      refine wl (sC (f := 29) (args := #[.agg #[.int .i64 r, .int .i64 p], .agg #[.int .i64 aa, .int .i64 bl], .int .i64 (pr l m).1, .int .i64 0, .int .i64 (pr l m).2]) hF (by kernel_rfl) rfl (by decide) (by kernel_rfl) (fun _ => by kernel_rfl) ?_)
                      refine enterK 38 Try.func29 rfl rfl rfl ?_
                      intro a1 hF1 QR98 hR98 hNR98
                      refine wp_seq_k fun K99 hK99 => ?_
                      refine wp_region_lit ?_
                      refine wl (eN 5 18 (t := 23) (fun b => .pointer (some ⟨b, 0, none⟩)) #[.int .i64 r, .int .i64 p] hF1 hM (by kernel_rfl) (fun _ => by kernel_rfl) fun bb17 a1 w hF1 hM => ?_)
                      refine wl (eN 6 19 (t := 40) (fun b => .pointer (some ⟨b, 0, none⟩)) #[.int .i64 aa, .int .i64 bl] hF1 hM (by kernel_rfl) (fun _ => by kernel_rfl) fun bb18 a1 w hF1 hM => ?_)
                      refine sB 1 [(10, .int .i64 0)] hF1 (by kernel_rfl) fun a1 hF1 => ?_
                      refine wl (eN 11 20 (t := 40) (fun b => .pointer (some ⟨b, 0, none⟩)) #[.int .i64 0, .int .i64 0] hF1 hM (by kernel_rfl) (fun _ => by kernel_rfl) fun bb19 a1 w hF1 hM => ?_)
                      refine wpList_nil ?_
                      refine hK99 _ _ ?_
                      refine wp_seq_k fun K100 hK100 => ?_
                      refine wp_region_lit ?_
                      refine wl (eL 17 18 0 (v := .agg #[.int .i64 r, .int .i64 p]) hF1 hM (by kernel_rfl) rfl rfl (by kernel_rfl) (by kernel_rfl) fun a1 w hF1 hM => ?_)
                      refine wl (eL 18 19 0 (v := .agg #[.int .i64 aa, .int .i64 bl]) hF1 hM (by kernel_rfl) rfl rfl (by kernel_rfl) (by kernel_rfl) fun a1 w hF1 hM => ?_)
                      refine sB 1 [(19, .agg #[.int .i64 r, .int .i64 p, .int .i64 aa, .int .i64 bl])] hF1 (by kernel_rfl) fun a1 hF1 => ?_
                      refine wl (eN 12 21 (t := 83) (fun b => .pointer (some ⟨b, 0, none⟩)) #[.int .i64 0, .int .i64 0, .int .i64 0, .int .i64 0] hF1 hM (by kernel_rfl) (fun _ => by kernel_rfl) fun bb20 a1 w hF1 hM => ?_)
                      refine wl (sStore (i := 21) (off := 0) (cs' := #[.int .i64 r, .int .i64 p, .int .i64 aa, .int .i64 bl]) hF1 hM (by kernel_rfl) rfl rfl (by kernel_rfl) (by kernel_rfl) rfl (by kernel_rfl) fun w hM => ?_)
                      refine wpList_nil ?_
                      refine hK100 _ _ ?_
                      refine wp_seq_k fun K101 hK101 => ?_
                      refine wp_region_lit ?_
                      refine sB 6 [(20, .func (.func 38) #[.pointer (some ⟨bb20, 0, none⟩)] #[]), (21, .func (.func 39) #[.pointer (some ⟨bb20, 0, none⟩)] #[]), (22, .func (.func 40) #[.pointer (some ⟨bb20, 0, none⟩)] #[]), (13, .func (.func 38) #[.pointer (some ⟨bb20, 0, none⟩)] #[]), (14, .func (.func 39) #[.pointer (some ⟨bb20, 0, none⟩)] #[]), (15, .func (.func 40) #[.pointer (some ⟨bb20, 0, none⟩)] #[])] hF1 (by kernel_rfl) fun a1 hF1 => ?_
                      refine wpList_nil ?_
                      refine hK101 _ _ ?_
                      refine wp_seq_k fun K102 hK102 => ?_
                      refine wp_region_lit ?_
                      refine sB 2 [(23, .func (.func 38) #[.pointer (some ⟨bb20, 0, none⟩)] #[]), (24, .int .i64 (pr l m).1)] hF1 (by kernel_rfl) fun a1 hF1 => ?_
                      refine wl (sC (f := 38) (args := #[.pointer (some ⟨bb20, 0, none⟩), .int .i64 (pr l m).1]) hF1 (by kernel_rfl) rfl (by decide) (by kernel_rfl) (fun _ => by kernel_rfl) ?_)
                      refine enterK 40 Try.func38 rfl rfl rfl ?_
                      intro a2 hF2 QR103 hR103 hNR103
                      refine wp_seq_k fun K104 hK104 => ?_
                      refine wp_seq_k fun K105 hK105 => ?_
                      refine wp_region_lit ?_
                      refine sB 5 [(4, .int .i64 (pr l m).1), (5, .pointer (some ⟨bb20, 0, none⟩)), (6, .pointer (some ⟨bb20, 0, none⟩)), (7, .pointer (some ⟨bb20, 2, none⟩)), (8, .pointer (some ⟨bb20, 2, none⟩))] hF2 (by kernel_rfl) fun a2 hF2 => ?_
                      refine wl (eL 9 21 2 (v := .int .i64 aa) hF2 hM (by kernel_rfl) rfl rfl (by kernel_rfl) (by kernel_rfl) fun a2 w hF2 hM => ?_)
                      refine sB 1 [(10, .bool (decide ((pr l m).1 ≤ aa)))] hF2 (by kernel_rfl) fun a2 hF2 => ?_
                      refine wpList_nil ?_
                      refine hK105 _ _ ?_
                      by_cases hz35 : (pr l m).1 ≤ aa
                      · skip
                        replace hF2 := hF2.c hF2 (i := 10) (v := .bool true) rfl (bT hz35)
                        refine cT hF2 (by kernel_rfl) (by kernel_rfl) ?_
                        refine wp_ret ?_
                        refine hR103 _ _ ?_
                        refine ret_of hF2 hM (.nil) ⟨_, rfl, ?_⟩
                        intro a1 hF1
                        refine wpList_nil ?_
                        refine hK102 _ _ ?_
                        refine wp_seq_k fun K106 hK106 => ?_
                        refine wp_region_lit ?_
                        refine sB 1 [(26, .int .i64 0)] hF1 (by kernel_rfl) fun a1 hF1 => ?_
                        refine wl (sC (f := 41) (args := #[.pointer (some ⟨bb20, 0, none⟩)]) hF1 (by kernel_rfl) rfl (by decide) (by kernel_rfl) (fun _ => by kernel_rfl) ?_)
                        refine enterK 31 Try.func41 rfl rfl rfl ?_
                        intro a2 hF2 QR107 hR107 hNR107
                        refine wp_seq_k fun K108 hK108 => ?_
                        refine wp_region_lit ?_
                        refine sB 1 [(2, .int .i64 0)] hF2 (by kernel_rfl) fun a2 hF2 => ?_
                        refine wpList_nil ?_
                        refine hK108 _ _ ?_
                        refine wp_seq_k fun K109 hK109 => ?_
                        refine wp_region_lit ?_
                        refine sB 4 [(4, .pointer (some ⟨bb20, 0, none⟩)), (5, .pointer (some ⟨bb20, 0, none⟩)), (6, .pointer (some ⟨bb20, 2, none⟩)), (7, .pointer (some ⟨bb20, 3, none⟩))] hF2 (by kernel_rfl) fun a2 hF2 => ?_
                        refine wl (eL 8 21 3 (v := .int .i64 bl) hF2 hM (by kernel_rfl) rfl rfl (by kernel_rfl) (by kernel_rfl) fun a2 w hF2 hM => ?_)
                        refine wl (eP 9 (v0 := .int .i64 (IntKind.i64.wrap (0 - bl))) (v := .int .i64 (-bl)) hF2 (by kernel_rfl) (fun _ => by kernel_rfl) (vi (by rw [Int.zero_sub]; exact (w64 (by omega)))) fun a2 hF2 => ?_)
                        refine wl (eP 10 (v0 := .int .i64 (if -bl > 0 then -bl else 0)) (v := .int .i64 (max 0 (-bl))) hF2 (by kernel_rfl) (fun _ => by kernel_rfl) (vi (max_if _ _)) fun a2 hF2 => ?_)
                        refine sB 1 [(3, .int .i64 (max 0 (-bl)))] hF2 (by kernel_rfl) fun a2 hF2 => ?_
                        refine wpList_nil ?_
                        refine hK109 _ _ ?_
                        refine wp_seq_k fun K110 hK110 => ?_
                        refine rQ hM (by kernel_rfl) (by kernel_rfl) ?_
                        refine eQ 11 (v0 := .pointer (some ⟨bb20, 0, none⟩)) (v := .pointer (some ⟨bb20, 0, none⟩)) hF2 (by kernel_rfl) (fun _ => by kernel_rfl) rfl fun a2 hF2 => ?_
                        refine eQ 12 (v0 := .pointer (some ⟨bb20, 0, none⟩)) (v := .pointer (some ⟨bb20, 0, none⟩)) hF2 (by kernel_rfl) (fun _ => by kernel_rfl) rfl fun a2 hF2 => ?_
                        refine eQ 13 (v0 := .pointer (some ⟨bb20, 2, none⟩)) (v := .pointer (some ⟨bb20, 2, none⟩)) hF2 (by kernel_rfl) (fun _ => by kernel_rfl) rfl fun a2 hF2 => ?_
                        refine eQ 14 (v0 := .pointer (some ⟨bb20, 2, none⟩)) (v := .pointer (some ⟨bb20, 2, none⟩)) hF2 (by kernel_rfl) (fun _ => by kernel_rfl) rfl fun a2 hF2 => ?_
                        refine eQL 15 21 2 (v := .int .i64 aa) hF2 (by kernel_rfl) rfl rfl (by kernel_rfl) (by kernel_rfl) fun a2 hF2 => ?_
                        refine eQ 16 (v0 := .int .i64 (max 0 (-bl))) (v := .int .i64 (max 0 (-bl))) hF2 (by kernel_rfl) (fun _ => by kernel_rfl) rfl fun a2 hF2 => ?_
                        refine eQ 17 (v0 := .pointer (some ⟨bb20, 0, none⟩)) (v := .pointer (some ⟨bb20, 0, none⟩)) hF2 (by kernel_rfl) (fun _ => by kernel_rfl) rfl fun a2 hF2 => ?_
                        refine eQ 18 (v0 := .pointer (some ⟨bb20, 0, none⟩)) (v := .pointer (some ⟨bb20, 0, none⟩)) hF2 (by kernel_rfl) (fun _ => by kernel_rfl) rfl fun a2 hF2 => ?_
                        refine eQ 19 (v0 := .pointer (some ⟨bb20, 0, none⟩)) (v := .pointer (some ⟨bb20, 0, none⟩)) hF2 (by kernel_rfl) (fun _ => by kernel_rfl) rfl fun a2 hF2 => ?_
                        refine eQ 20 (v0 := .pointer (some ⟨bb20, 0, none⟩)) (v := .pointer (some ⟨bb20, 0, none⟩)) hF2 (by kernel_rfl) (fun _ => by kernel_rfl) rfl fun a2 hF2 => ?_
                        refine eQL 21 21 0 (v := .int .i64 r) hF2 (by kernel_rfl) rfl rfl (by kernel_rfl) (by kernel_rfl) fun a2 hF2 => ?_
                        refine eQ 22 (v0 := .int .i64 (IntKind.i64.wrap (max 0 (-bl) + r))) (v := .int .i64 (max 0 (-bl) + r)) hF2 (by kernel_rfl) (fun _ => by kernel_rfl) (wi (by omega)) fun a2 hF2 => ?_
                        refine eQ 23 (v0 := .int .i64 (IntKind.i64.wrap (max 0 (-bl) + r - 1))) (v := .int .i64 (max 0 (-bl) + r - 1)) hF2 (by kernel_rfl) (fun _ => by kernel_rfl) (wi (by omega)) fun a2 hF2 => ?_
                        refine eQ 24 (v0 := .pointer (some ⟨bb20, 0, none⟩)) (v := .pointer (some ⟨bb20, 0, none⟩)) hF2 (by kernel_rfl) (fun _ => by kernel_rfl) rfl fun a2 hF2 => ?_
                        refine eQ 25 (v0 := .pointer (some ⟨bb20, 0, none⟩)) (v := .pointer (some ⟨bb20, 0, none⟩)) hF2 (by kernel_rfl) (fun _ => by kernel_rfl) rfl fun a2 hF2 => ?_
                        refine eQ 26 (v0 := .pointer (some ⟨bb20, 0, none⟩)) (v := .pointer (some ⟨bb20, 0, none⟩)) hF2 (by kernel_rfl) (fun _ => by kernel_rfl) rfl fun a2 hF2 => ?_
                        refine eQ 27 (v0 := .pointer (some ⟨bb20, 0, none⟩)) (v := .pointer (some ⟨bb20, 0, none⟩)) hF2 (by kernel_rfl) (fun _ => by kernel_rfl) rfl fun a2 hF2 => ?_
                        refine eQL 28 21 0 (v := .int .i64 r) hF2 (by kernel_rfl) rfl rfl (by kernel_rfl) (by kernel_rfl) fun a2 hF2 => ?_
                        refine eQ2 29 (v := .int .i64 ((max 0 (-bl) + r - 1) / r)) hF2 (by kernel_rfl) (yld_quo (max 0 (-bl) + r - 1) r hF2 rfl (by kernel_rfl) (by kernel_rfl) (by kernel_rfl) (by omega) (qpos_i64 (by omega) (by omega) (by omega))) fun a2 hF2 => ?_
                        have := ediv_le_self_of (p := max 0 (-bl) + r - 1) (q := r) (by omega) (by omega)
                        refine eQ 30 (v0 := .int .i64 (IntKind.i64.wrap (aa + (max 0 (-bl) + r - 1) / r))) (v := .int .i64 (aa + (max 0 (-bl) + r - 1) / r)) hF2 (by kernel_rfl) (fun _ => by kernel_rfl) (wi (by omega)) fun a2 hF2 => ?_
                        refine eQ 2 (v0 := .int .i64 (aa + (max 0 (-bl) + r - 1) / r)) (v := .int .i64 (aa + (max 0 (-bl) + r - 1) / r)) hF2 (by kernel_rfl) (fun _ => by kernel_rfl) rfl fun a2 hF2 => ?_
                        refine wpQuiet_nil ?_
                        intro w hM
                        refine hK110 _ _ ?_
                        refine wp_ret ?_
                        refine hR107 _ _ ?_
                        refine ret_of hF2 hM (.tmp rfl (.nil)) ⟨_, rfl, ?_⟩
                        intro a1 hF1
                        refine wl (eP 28 (v0 := .int .i64 (if aa + (max 0 (-bl) + r - 1) / r > 0 then aa + (max 0 (-bl) + r - 1) / r else 0)) (v := .int .i64 (max 0 (aa + (max 0 (-bl) + r - 1) / r))) hF1 (by kernel_rfl) (fun _ => by kernel_rfl) (vi (max_if _ _)) fun a1 hF1 => ?_)
                        refine sB 1 [(16, .int .i64 (max 0 (aa + (max 0 (-bl) + r - 1) / r)))] hF1 (by kernel_rfl) fun a1 hF1 => ?_
                        refine wpList_nil ?_
                        refine hK106 _ _ ?_
                        refine wp_seq_k fun K111 hK111 => ?_
                        refine wp_region_lit ?_
                        refine sB 2 [(29, .func (.func 39) #[.pointer (some ⟨bb20, 0, none⟩)] #[]), (30, .int .i64 (max 0 (aa + (max 0 (-bl) + r - 1) / r)))] hF1 (by kernel_rfl) fun a1 hF1 => ?_
                        refine wl (sC (f := 39) (args := #[.pointer (some ⟨bb20, 0, none⟩), .int .i64 (max 0 (aa + (max 0 (-bl) + r - 1) / r))]) hF1 (by kernel_rfl) rfl (by decide) (by kernel_rfl) (fun _ => by kernel_rfl) ?_)
                        refine enterK 31 Try.func39 rfl rfl rfl ?_
                        intro a2 hF2 QR112 hR112 hNR112
                        refine wp_seq_k fun K113 hK113 => ?_
                        refine rT 22 (by kernel_rfl) (by kernel_rfl) hM.drew ?_
                        refine eQ 4 (v0 := .pointer (some ⟨bb20, 0, none⟩)) (v := .pointer (some ⟨bb20, 0, none⟩)) hF2 (by kernel_rfl) (fun _ => by kernel_rfl) rfl fun a2 hF2 => ?_
                        refine eQ 5 (v0 := .pointer (some ⟨bb20, 0, none⟩)) (v := .pointer (some ⟨bb20, 0, none⟩)) hF2 (by kernel_rfl) (fun _ => by kernel_rfl) rfl fun a2 hF2 => ?_
                        refine eQ 6 (v0 := .pointer (some ⟨bb20, 2, none⟩)) (v := .pointer (some ⟨bb20, 2, none⟩)) hF2 (by kernel_rfl) (fun _ => by kernel_rfl) rfl fun a2 hF2 => ?_
                        refine eQ 7 (v0 := .pointer (some ⟨bb20, 3, none⟩)) (v := .pointer (some ⟨bb20, 3, none⟩)) hF2 (by kernel_rfl) (fun _ => by kernel_rfl) rfl fun a2 hF2 => ?_
                        refine eQL 8 21 3 (v := .int .i64 bl) hF2 (by kernel_rfl) rfl rfl (by kernel_rfl) (by kernel_rfl) fun a2 hF2 => ?_
                        refine eQ 9 (v0 := .pointer (some ⟨bb20, 0, none⟩)) (v := .pointer (some ⟨bb20, 0, none⟩)) hF2 (by kernel_rfl) (fun _ => by kernel_rfl) rfl fun a2 hF2 => ?_
                        refine eQ 10 (v0 := .pointer (some ⟨bb20, 0, none⟩)) (v := .pointer (some ⟨bb20, 0, none⟩)) hF2 (by kernel_rfl) (fun _ => by kernel_rfl) rfl fun a2 hF2 => ?_
                        refine eQ 11 (v0 := .pointer (some ⟨bb20, 0, none⟩)) (v := .pointer (some ⟨bb20, 0, none⟩)) hF2 (by kernel_rfl) (fun _ => by kernel_rfl) rfl fun a2 hF2 => ?_
                        refine eQ 12 (v0 := .pointer (some ⟨bb20, 0, none⟩)) (v := .pointer (some ⟨bb20, 0, none⟩)) hF2 (by kernel_rfl) (fun _ => by kernel_rfl) rfl fun a2 hF2 => ?_
                        refine eQL 13 21 0 (v := .int .i64 r) hF2 (by kernel_rfl) rfl rfl (by kernel_rfl) (by kernel_rfl) fun a2 hF2 => ?_
                        refine eQ 14 (v0 := .int .i64 (max 0 (aa + (max 0 (-bl) + r - 1) / r))) (v := .int .i64 (max 0 (aa + (max 0 (-bl) + r - 1) / r))) hF2 (by kernel_rfl) (fun _ => by kernel_rfl) rfl fun a2 hF2 => ?_
                        refine eQ 15 (v0 := .pointer (some ⟨bb20, 0, none⟩)) (v := .pointer (some ⟨bb20, 0, none⟩)) hF2 (by kernel_rfl) (fun _ => by kernel_rfl) rfl fun a2 hF2 => ?_
                        refine eQ 16 (v0 := .pointer (some ⟨bb20, 0, none⟩)) (v := .pointer (some ⟨bb20, 0, none⟩)) hF2 (by kernel_rfl) (fun _ => by kernel_rfl) rfl fun a2 hF2 => ?_
                        refine eQ 17 (v0 := .pointer (some ⟨bb20, 2, none⟩)) (v := .pointer (some ⟨bb20, 2, none⟩)) hF2 (by kernel_rfl) (fun _ => by kernel_rfl) rfl fun a2 hF2 => ?_
                        refine eQ 18 (v0 := .pointer (some ⟨bb20, 2, none⟩)) (v := .pointer (some ⟨bb20, 2, none⟩)) hF2 (by kernel_rfl) (fun _ => by kernel_rfl) rfl fun a2 hF2 => ?_
                        refine eQL 19 21 2 (v := .int .i64 aa) hF2 (by kernel_rfl) rfl rfl (by kernel_rfl) (by kernel_rfl) fun a2 hF2 => ?_
                        refine eQ 20 (v0 := .int .i64 (IntKind.i64.wrap (max 0 (aa + (max 0 (-bl) + r - 1) / r) - aa))) (v := .int .i64 (max 0 (aa + (max 0 (-bl) + r - 1) / r) - aa)) hF2 (by kernel_rfl) (fun _ => by kernel_rfl) (wi (by omega)) fun a2 hF2 => ?_
                        have hz36 : 0 ≤ r * (max 0 (aa + (max 0 (-bl) + r - 1) / r) - aa) ∧ r * (max 0 (aa + (max 0 (-bl) + r - 1) / r) - aa) ≤ 2822443654709250 := mul_bd (1) (1048575) (0) (2691694590) (by omega) (by omega) (by omega) (by omega) (by decide)
                        refine eQ 21 (v0 := .int .i64 (IntKind.i64.wrap (r * (max 0 (aa + (max 0 (-bl) + r - 1) / r) - aa)))) (v := .int .i64 (r * (max 0 (aa + (max 0 (-bl) + r - 1) / r) - aa))) hF2 (by kernel_rfl) (fun _ => by kernel_rfl) (wi (by omega)) fun a2 hF2 => ?_
                        refine eQ 22 (v0 := .int .i64 (IntKind.i64.wrap (bl + r * (max 0 (aa + (max 0 (-bl) + r - 1) / r) - aa)))) (v := .int .i64 (bl + r * (max 0 (aa + (max 0 (-bl) + r - 1) / r) - aa))) hF2 (by kernel_rfl) (fun _ => by kernel_rfl) (wi (by omega)) fun a2 hF2 => ?_
                        refine eQ 23 (v0 := .pointer (some ⟨bb20, 0, none⟩)) (v := .pointer (some ⟨bb20, 0, none⟩)) hF2 (by kernel_rfl) (fun _ => by kernel_rfl) rfl fun a2 hF2 => ?_
                        refine eQ 24 (v0 := .pointer (some ⟨bb20, 2, none⟩)) (v := .pointer (some ⟨bb20, 2, none⟩)) hF2 (by kernel_rfl) (fun _ => by kernel_rfl) rfl fun a2 hF2 => ?_
                        refine eQ 25 (v0 := .pointer (some ⟨bb20, 3, none⟩)) (v := .pointer (some ⟨bb20, 3, none⟩)) hF2 (by kernel_rfl) (fun _ => by kernel_rfl) rfl fun a2 hF2 => ?_
                        refine wpQuiet_nil ?_
                        intro w hM
                        refine wl (sStore (i := 21) (off := 3) (cs' := #[.int .i64 r, .int .i64 p, .int .i64 aa, .int .i64 (bl + r * (max 0 (aa + (max 0 (-bl) + r - 1) / r) - aa))]) hF2 hM (by kernel_rfl) rfl rfl (by kernel_rfl) (by kernel_rfl) rfl (by kernel_rfl) fun w hM => ?_)
                        refine wpList_nil ?_
                        refine hK113 _ _ ?_
                        refine wp_region_lit ?_
                        refine sB 5 [(26, .pointer (some ⟨bb20, 0, none⟩)), (27, .int .i64 (max 0 (aa + (max 0 (-bl) + r - 1) / r))), (28, .pointer (some ⟨bb20, 0, none⟩)), (29, .pointer (some ⟨bb20, 2, none⟩)), (30, .pointer (some ⟨bb20, 2, none⟩))] hF2 (by kernel_rfl) fun a2 hF2 => ?_
                        refine wl (sStore (i := 21) (off := 2) (cs' := #[.int .i64 r, .int .i64 p, .int .i64 (max 0 (aa + (max 0 (-bl) + r - 1) / r)), .int .i64 (bl + r * (max 0 (aa + (max 0 (-bl) + r - 1) / r) - aa))]) hF2 hM (by kernel_rfl) rfl rfl (by kernel_rfl) (by kernel_rfl) rfl (by kernel_rfl) fun w hM => ?_)
                        refine wpList_nil ?_
                        refine hNR112 _ _ ?_
                        refine ret_ofN hF2 hM (.nil) ⟨_, rfl, ?_⟩
                        intro a1 hF1
                        refine wpList_nil ?_
                        refine hK111 _ _ ?_
                        refine wp_seq_k fun K114 hK114 => ?_
                        refine wp_region_lit ?_
                        refine sB 2 [(32, .func (.func 40) #[.pointer (some ⟨bb20, 0, none⟩)] #[]), (33, .int .i64 (pr l m).2)] hF1 (by kernel_rfl) fun a1 hF1 => ?_
                        refine wl (sC (f := 40) (args := #[.pointer (some ⟨bb20, 0, none⟩), .int .i64 (pr l m).2]) hF1 (by kernel_rfl) rfl (by decide) (by kernel_rfl) (fun _ => by kernel_rfl) ?_)
                        refine enterK 43 Try.func40 rfl rfl rfl ?_
                        intro a2 hF2 QR115 hR115 hNR115
                        refine wp_seq_k fun K116 hK116 => ?_
                        refine rT 23 (by kernel_rfl) (by kernel_rfl) hM.drew ?_
                        refine eQ 4 (v0 := .pointer (some ⟨bb20, 0, none⟩)) (v := .pointer (some ⟨bb20, 0, none⟩)) hF2 (by kernel_rfl) (fun _ => by kernel_rfl) rfl fun a2 hF2 => ?_
                        refine eQ 5 (v0 := .pointer (some ⟨bb20, 0, none⟩)) (v := .pointer (some ⟨bb20, 0, none⟩)) hF2 (by kernel_rfl) (fun _ => by kernel_rfl) rfl fun a2 hF2 => ?_
                        refine eQ 6 (v0 := .pointer (some ⟨bb20, 2, none⟩)) (v := .pointer (some ⟨bb20, 2, none⟩)) hF2 (by kernel_rfl) (fun _ => by kernel_rfl) rfl fun a2 hF2 => ?_
                        refine eQ 7 (v0 := .pointer (some ⟨bb20, 3, none⟩)) (v := .pointer (some ⟨bb20, 3, none⟩)) hF2 (by kernel_rfl) (fun _ => by kernel_rfl) rfl fun a2 hF2 => ?_
                        refine eQL 8 21 3 (v := .int .i64 (bl + r * (max 0 (aa + (max 0 (-bl) + r - 1) / r) - aa))) hF2 (by kernel_rfl) rfl rfl (by kernel_rfl) (by kernel_rfl) fun a2 hF2 => ?_
                        refine eQ 9 (v0 := .pointer (some ⟨bb20, 0, none⟩)) (v := .pointer (some ⟨bb20, 0, none⟩)) hF2 (by kernel_rfl) (fun _ => by kernel_rfl) rfl fun a2 hF2 => ?_
                        refine eQ 10 (v0 := .pointer (some ⟨bb20, 0, none⟩)) (v := .pointer (some ⟨bb20, 0, none⟩)) hF2 (by kernel_rfl) (fun _ => by kernel_rfl) rfl fun a2 hF2 => ?_
                        refine eQ 11 (v0 := .pointer (some ⟨bb20, 0, none⟩)) (v := .pointer (some ⟨bb20, 0, none⟩)) hF2 (by kernel_rfl) (fun _ => by kernel_rfl) rfl fun a2 hF2 => ?_
                        refine eQ 12 (v0 := .pointer (some ⟨bb20, 0, none⟩)) (v := .pointer (some ⟨bb20, 0, none⟩)) hF2 (by kernel_rfl) (fun _ => by kernel_rfl) rfl fun a2 hF2 => ?_
                        refine eQL 13 21 0 (v := .int .i64 r) hF2 (by kernel_rfl) rfl rfl (by kernel_rfl) (by kernel_rfl) fun a2 hF2 => ?_
                        refine eQ 14 (v0 := .pointer (some ⟨bb20, 0, none⟩)) (v := .pointer (some ⟨bb20, 0, none⟩)) hF2 (by kernel_rfl) (fun _ => by kernel_rfl) rfl fun a2 hF2 => ?_
                        refine eQ 15 (v0 := .pointer (some ⟨bb20, 0, none⟩)) (v := .pointer (some ⟨bb20, 0, none⟩)) hF2 (by kernel_rfl) (fun _ => by kernel_rfl) rfl fun a2 hF2 => ?_
                        refine eQ 16 (v0 := .pointer (some ⟨bb20, 0, none⟩)) (v := .pointer (some ⟨bb20, 0, none⟩)) hF2 (by kernel_rfl) (fun _ => by kernel_rfl) rfl fun a2 hF2 => ?_
                        refine eQ 17 (v0 := .pointer (some ⟨bb20, 1, none⟩)) (v := .pointer (some ⟨bb20, 1, none⟩)) hF2 (by kernel_rfl) (fun _ => by kernel_rfl) rfl fun a2 hF2 => ?_
                        refine eQL 18 21 1 (v := .int .i64 p) hF2 (by kernel_rfl) rfl rfl (by kernel_rfl) (by kernel_rfl) fun a2 hF2 => ?_
                        have hz37 : 1 ≤ r * p ∧ r * p ≤ 1048575000 := mul_bd (1) (1048575) (1) (1000) (by omega) (by omega) (by omega) (by omega) (by decide)
                        refine eQ 19 (v0 := .int .i64 (IntKind.i64.wrap (r * p))) (v := .int .i64 (r * p)) hF2 (by kernel_rfl) (fun _ => by kernel_rfl) (wi (by omega)) fun a2 hF2 => ?_
                        refine eQ 20 (v0 := .int .i64 (IntKind.i64.wrap (r * p - 1048576))) (v := .int .i64 (r * p - 1048576)) hF2 (by kernel_rfl) (fun _ => by kernel_rfl) (wi (by omega)) fun a2 hF2 => ?_
                        refine eQ 21 (v0 := .int .i64 (pr l m).2) (v := .int .i64 (pr l m).2) hF2 (by kernel_rfl) (fun _ => by kernel_rfl) rfl fun a2 hF2 => ?_
                        have hz38 : -1616902650 ≤ (r * p - 1048576) * (pr l m).2 ∧ (r * p - 1048576) * (pr l m).2 ≤ -1 := mul_bd (-1048575) (-1) (1) (1542) (by omega) (by omega) (by omega) (by omega) (by decide)
                        refine eQ 22 (v0 := .int .i64 (IntKind.i64.wrap ((r * p - 1048576) * (pr l m).2))) (v := .int .i64 ((r * p - 1048576) * (pr l m).2)) hF2 (by kernel_rfl) (fun _ => by kernel_rfl) (wi (by omega)) fun a2 hF2 => ?_
                        refine eQ 23 (v0 := .int .i64 (IntKind.i64.wrap (bl + r * (max 0 (aa + (max 0 (-bl) + r - 1) / r) - aa) + (r * p - 1048576) * (pr l m).2))) (v := .int .i64 (bl + r * (max 0 (aa + (max 0 (-bl) + r - 1) / r) - aa) + (r * p - 1048576) * (pr l m).2)) hF2 (by kernel_rfl) (fun _ => by kernel_rfl) (wi (by omega)) fun a2 hF2 => ?_
                        refine eQ 24 (v0 := .pointer (some ⟨bb20, 0, none⟩)) (v := .pointer (some ⟨bb20, 0, none⟩)) hF2 (by kernel_rfl) (fun _ => by kernel_rfl) rfl fun a2 hF2 => ?_
                        refine eQ 25 (v0 := .pointer (some ⟨bb20, 2, none⟩)) (v := .pointer (some ⟨bb20, 2, none⟩)) hF2 (by kernel_rfl) (fun _ => by kernel_rfl) rfl fun a2 hF2 => ?_
                        refine eQ 26 (v0 := .pointer (some ⟨bb20, 3, none⟩)) (v := .pointer (some ⟨bb20, 3, none⟩)) hF2 (by kernel_rfl) (fun _ => by kernel_rfl) rfl fun a2 hF2 => ?_
                        refine wpQuiet_nil ?_
                        intro w hM
                        refine wl (sStore (i := 21) (off := 3) (cs' := #[.int .i64 r, .int .i64 p, .int .i64 (max 0 (aa + (max 0 (-bl) + r - 1) / r)), .int .i64 (bl + r * (max 0 (aa + (max 0 (-bl) + r - 1) / r) - aa) + (r * p - 1048576) * (pr l m).2)]) hF2 hM (by kernel_rfl) rfl rfl (by kernel_rfl) (by kernel_rfl) rfl (by kernel_rfl) fun w hM => ?_)
                        refine wpList_nil ?_
                        refine hK116 _ _ ?_
                        refine rT 16 (by kernel_rfl) (by kernel_rfl) hM.drew ?_
                        refine eQ 27 (v0 := .pointer (some ⟨bb20, 0, none⟩)) (v := .pointer (some ⟨bb20, 0, none⟩)) hF2 (by kernel_rfl) (fun _ => by kernel_rfl) rfl fun a2 hF2 => ?_
                        refine eQ 28 (v0 := .pointer (some ⟨bb20, 0, none⟩)) (v := .pointer (some ⟨bb20, 0, none⟩)) hF2 (by kernel_rfl) (fun _ => by kernel_rfl) rfl fun a2 hF2 => ?_
                        refine eQ 29 (v0 := .pointer (some ⟨bb20, 2, none⟩)) (v := .pointer (some ⟨bb20, 2, none⟩)) hF2 (by kernel_rfl) (fun _ => by kernel_rfl) rfl fun a2 hF2 => ?_
                        refine eQ 30 (v0 := .pointer (some ⟨bb20, 2, none⟩)) (v := .pointer (some ⟨bb20, 2, none⟩)) hF2 (by kernel_rfl) (fun _ => by kernel_rfl) rfl fun a2 hF2 => ?_
                        refine eQL 31 21 2 (v := .int .i64 (max 0 (aa + (max 0 (-bl) + r - 1) / r))) hF2 (by kernel_rfl) rfl rfl (by kernel_rfl) (by kernel_rfl) fun a2 hF2 => ?_
                        refine eQ 32 (v0 := .int .i64 (pr l m).2) (v := .int .i64 (pr l m).2) hF2 (by kernel_rfl) (fun _ => by kernel_rfl) rfl fun a2 hF2 => ?_
                        refine eQ 33 (v0 := .pointer (some ⟨bb20, 0, none⟩)) (v := .pointer (some ⟨bb20, 0, none⟩)) hF2 (by kernel_rfl) (fun _ => by kernel_rfl) rfl fun a2 hF2 => ?_
                        refine eQ 34 (v0 := .pointer (some ⟨bb20, 0, none⟩)) (v := .pointer (some ⟨bb20, 0, none⟩)) hF2 (by kernel_rfl) (fun _ => by kernel_rfl) rfl fun a2 hF2 => ?_
                        refine eQ 35 (v0 := .pointer (some ⟨bb20, 0, none⟩)) (v := .pointer (some ⟨bb20, 0, none⟩)) hF2 (by kernel_rfl) (fun _ => by kernel_rfl) rfl fun a2 hF2 => ?_
                        refine eQ 36 (v0 := .pointer (some ⟨bb20, 1, none⟩)) (v := .pointer (some ⟨bb20, 1, none⟩)) hF2 (by kernel_rfl) (fun _ => by kernel_rfl) rfl fun a2 hF2 => ?_
                        refine eQL 37 21 1 (v := .int .i64 p) hF2 (by kernel_rfl) rfl rfl (by kernel_rfl) (by kernel_rfl) fun a2 hF2 => ?_
                        have hz39 : 1 ≤ (pr l m).2 * p ∧ (pr l m).2 * p ≤ 1542000 := mul_bd (1) (1542) (1) (1000) (by omega) (by omega) (by omega) (by omega) (by decide)
                        refine eQ 38 (v0 := .int .i64 (IntKind.i64.wrap ((pr l m).2 * p))) (v := .int .i64 ((pr l m).2 * p)) hF2 (by kernel_rfl) (fun _ => by kernel_rfl) (wi (by omega)) fun a2 hF2 => ?_
                        refine eQ 39 (v0 := .int .i64 (IntKind.i64.wrap (max 0 (aa + (max 0 (-bl) + r - 1) / r) + (pr l m).2 * p))) (v := .int .i64 (max 0 (aa + (max 0 (-bl) + r - 1) / r) + (pr l m).2 * p)) hF2 (by kernel_rfl) (fun _ => by kernel_rfl) (wi (by omega)) fun a2 hF2 => ?_
                        refine eQ 40 (v0 := .pointer (some ⟨bb20, 0, none⟩)) (v := .pointer (some ⟨bb20, 0, none⟩)) hF2 (by kernel_rfl) (fun _ => by kernel_rfl) rfl fun a2 hF2 => ?_
                        refine eQ 41 (v0 := .pointer (some ⟨bb20, 2, none⟩)) (v := .pointer (some ⟨bb20, 2, none⟩)) hF2 (by kernel_rfl) (fun _ => by kernel_rfl) rfl fun a2 hF2 => ?_
                        refine eQ 42 (v0 := .pointer (some ⟨bb20, 2, none⟩)) (v := .pointer (some ⟨bb20, 2, none⟩)) hF2 (by kernel_rfl) (fun _ => by kernel_rfl) rfl fun a2 hF2 => ?_
                        refine wpQuiet_nil ?_
                        intro w hM
                        refine wl (sStore (i := 21) (off := 2) (cs' := #[.int .i64 r, .int .i64 p, .int .i64 (max 0 (aa + (max 0 (-bl) + r - 1) / r) + (pr l m).2 * p), .int .i64 (bl + r * (max 0 (aa + (max 0 (-bl) + r - 1) / r) - aa) + (r * p - 1048576) * (pr l m).2)]) hF2 hM (by kernel_rfl) rfl rfl (by kernel_rfl) (by kernel_rfl) rfl (by kernel_rfl) fun w hM => ?_)
                        refine wpList_nil ?_
                        refine hNR115 _ _ ?_
                        refine ret_ofN hF2 hM (.nil) ⟨_, rfl, ?_⟩
                        intro a1 hF1
                        refine wpList_nil ?_
                        refine hK114 _ _ ?_
                        refine wp_seq_k fun K117 hK117 => ?_
                        refine rT 4 (by kernel_rfl) (by kernel_rfl) hM.drew ?_
                        refine eQ 35 (v0 := .int .i64 (max 0 (aa + (max 0 (-bl) + r - 1) / r))) (v := .int .i64 (max 0 (aa + (max 0 (-bl) + r - 1) / r))) hF1 (by kernel_rfl) (fun _ => by kernel_rfl) rfl fun a1 hF1 => ?_
                        refine eQ 36 (v0 := .pointer (some ⟨bb20, 2, none⟩)) (v := .pointer (some ⟨bb20, 2, none⟩)) hF1 (by kernel_rfl) (fun _ => by kernel_rfl) rfl fun a1 hF1 => ?_
                        refine eQL 37 21 2 (v := .agg #[.int .i64 (max 0 (aa + (max 0 (-bl) + r - 1) / r) + (pr l m).2 * p), .int .i64 (bl + r * (max 0 (aa + (max 0 (-bl) + r - 1) / r) - aa) + (r * p - 1048576) * (pr l m).2)]) hF1 (by kernel_rfl) rfl rfl (by kernel_rfl) (by kernel_rfl) fun a1 hF1 => ?_
                        refine eQ 10 (v0 := .int .i64 (max 0 (aa + (max 0 (-bl) + r - 1) / r))) (v := .int .i64 (max 0 (aa + (max 0 (-bl) + r - 1) / r))) hF1 (by kernel_rfl) (fun _ => by kernel_rfl) rfl fun a1 hF1 => ?_
                        refine wpQuiet_nil ?_
                        intro w hM
                        refine wl (sStore (i := 20) (off := 0) (cs' := #[.int .i64 (max 0 (aa + (max 0 (-bl) + r - 1) / r) + (pr l m).2 * p), .int .i64 (bl + r * (max 0 (aa + (max 0 (-bl) + r - 1) / r) - aa) + (r * p - 1048576) * (pr l m).2)]) hF1 hM (by kernel_rfl) rfl rfl (by kernel_rfl) (by kernel_rfl) rfl (by kernel_rfl) fun w hM => ?_)
                        refine wpList_nil ?_
                        refine hK117 _ _ ?_
                        refine wp_ret ?_
                        refine hR98 _ _ ?_
                        refine ret_of hF1 hM (.tmp rfl (.cell (i := 20) rfl rfl (v := .agg #[.int .i64 (max 0 (aa + (max 0 (-bl) + r - 1) / r) + (pr l m).2 * p), .int .i64 (bl + r * (max 0 (aa + (max 0 (-bl) + r - 1) / r) - aa) + (r * p - 1048576) * (pr l m).2)]) (by kernel_rfl) (.nil))) ⟨_, rfl, ?_⟩
                        intro a hF
                        refine sB 2 [(92, .int .i64 (max 0 (aa + (max 0 (-bl) + r - 1) / r))), (93, .agg #[.int .i64 (max 0 (aa + (max 0 (-bl) + r - 1) / r) + (pr l m).2 * p), .int .i64 (bl + r * (max 0 (aa + (max 0 (-bl) + r - 1) / r) - aa) + (r * p - 1048576) * (pr l m).2)])] hF (by kernel_rfl) fun a hF => ?_
                        refine wl (sC (f := 28) (args := #[.int .i64 (max 0 (aa + (max 0 (-bl) + r - 1) / r)), .agg #[.int .i64 (max 0 (aa + (max 0 (-bl) + r - 1) / r) + (pr l m).2 * p), .int .i64 (bl + r * (max 0 (aa + (max 0 (-bl) + r - 1) / r) - aa) + (r * p - 1048576) * (pr l m).2)], .pointer (some ⟨bb4, 0, none⟩), .pointer (some ⟨bb5, 0, none⟩)]) hF (by kernel_rfl) rfl (by decide) (by kernel_rfl) (fun _ => by kernel_rfl) ?_)
                        refine enterK 15 Try.func28 rfl rfl rfl ?_
                        intro a1 hF1 QR118 hR118 hNR118
                        refine wp_seq_k fun K119 hK119 => ?_
                        refine wp_region_lit ?_
                        refine wl (eN 5 22 (t := 40) (fun b => .pointer (some ⟨b, 0, none⟩)) #[.int .i64 (max 0 (aa + (max 0 (-bl) + r - 1) / r) + (pr l m).2 * p), .int .i64 (bl + r * (max 0 (aa + (max 0 (-bl) + r - 1) / r) - aa) + (r * p - 1048576) * (pr l m).2)] hF1 hM (by kernel_rfl) (fun _ => by kernel_rfl) fun bb21 a1 w hF1 hM => ?_)
                        refine sB 1 [(6, .bool false)] hF1 (by kernel_rfl) fun a1 hF1 => ?_
                        refine wpList_nil ?_
                        refine hK119 _ _ ?_
                        refine wp_seq_k fun K120 hK120 => ?_
                        refine wp_region_lit ?_
                        refine wl (eL 7 6 0 (v := .slice G m gc) hF1 hM (by kernel_rfl) rfl rfl (by kernel_rfl) (by kernel_rfl) fun a1 w hF1 hM => ?_)
                        refine sB 1 [(8, .int .i64 (max 0 (aa + (max 0 (-bl) + r - 1) / r)))] hF1 (by kernel_rfl) fun a1 hF1 => ?_
                        refine wl (eN 9 23 (t := 3) (fun b => .slice (some ⟨b, 0, none⟩) 1 1) #[.int .i64 (max 0 (aa + (max 0 (-bl) + r - 1) / r))] hF1 hM (by kernel_rfl) (fun _ => by kernel_rfl) fun bb22 a1 w hF1 hM => ?_)
                        refine wl (sApp 10 8 (e := 3) (size := 1) (bytes := 8) (z := .int .i64 0) (m := 1) (c := 1) (l := m) (cap := gc) (A := G) (news := [.int .i64 (max 0 (aa + (max 0 (-bl) + r - 1) / r))]) ((got ++ [max 0 (aa + (max 0 (-bl) + r - 1) / r)]).map (Value.int .i64)) hF1 hM (by kernel_rfl) rfl (by kernel_rfl) (by kernel_rfl) (by kernel_rfl) rfl rfl rfl rfl (roR 23 rfl) (by simp [Value.oneCell']) (by omega) (by decide) (map_snoc' _ _ _) fun AA23 cc23 a1 w hF1 hM => ?_)
                        refine wl (sStore (i := 6) (off := 0) (cs' := #[.slice AA23 (m + 1) cc23]) hF1 hM (by kernel_rfl) rfl rfl (by kernel_rfl) (by kernel_rfl) rfl (by kernel_rfl) fun w hM => ?_)
                        refine wpList_nil ?_
                        refine hK120 _ _ ?_
                        refine wp_seq_k fun K121 hK121 => ?_
                        refine wp_region_lit ?_
                        refine wl (eL 11 22 0 (v := .agg #[.int .i64 (max 0 (aa + (max 0 (-bl) + r - 1) / r) + (pr l m).2 * p), .int .i64 (bl + r * (max 0 (aa + (max 0 (-bl) + r - 1) / r) - aa) + (r * p - 1048576) * (pr l m).2)]) hF1 hM (by kernel_rfl) rfl rfl (by kernel_rfl) (by kernel_rfl) fun a1 w hF1 hM => ?_)
                        refine wl (sStore (i := 7) (off := 0) (cs' := #[.int .i64 (max 0 (aa + (max 0 (-bl) + r - 1) / r) + (pr l m).2 * p), .int .i64 (bl + r * (max 0 (aa + (max 0 (-bl) + r - 1) / r) - aa) + (r * p - 1048576) * (pr l m).2)]) hF1 hM (by kernel_rfl) rfl rfl (by kernel_rfl) (by kernel_rfl) rfl (by kernel_rfl) fun w hM => ?_)
                        refine wpList_nil ?_
                        refine hK121 _ _ ?_
                        refine wp_seq_k fun K122 hK122 => ?_
                        refine wp_region_lit ?_
                        refine wl (eL 12 22 0 (v := .agg #[.int .i64 (max 0 (aa + (max 0 (-bl) + r - 1) / r) + (pr l m).2 * p), .int .i64 (bl + r * (max 0 (aa + (max 0 (-bl) + r - 1) / r) - aa) + (r * p - 1048576) * (pr l m).2)]) hF1 hM (by kernel_rfl) rfl rfl (by kernel_rfl) (by kernel_rfl) fun a1 w hF1 hM => ?_)
                        refine wl (eM 13 (v := .int .i64 (stateE (max 0 (aa + (max 0 (-bl) + r - 1) / r) + (pr l m).2 * p) (bl + r * (max 0 (aa + (max 0 (-bl) + r - 1) / r) - aa) + (r * p - 1048576) * (pr l m).2))) hF1 hM (by kernel_rfl) (yld_call (f := 18) (args := #[.agg #[.int .i64 (max 0 (aa + (max 0 (-bl) + r - 1) / r) + (pr l m).2 * p), .int .i64 (bl + r * (max 0 (aa + (max 0 (-bl) + r - 1) / r) - aa) + (r * p - 1048576) * (pr l m).2)]]) hF1 (by kernel_rfl) (fun _ => by kernel_rfl) (fun w hM => crState_w (max 0 (aa + (max 0 (-bl) + r - 1) / r) + (pr l m).2 * p) (bl + r * (max 0 (aa + (max 0 (-bl) + r - 1) / r) - aa) + (r * p - 1048576) * (pr l m).2) w)) fun a1 w hF1 hM => ?_)
                        refine sB 2 [(14, .bool (decide (stateE (max 0 (aa + (max 0 (-bl) + r - 1) / r) + (pr l m).2 * p) (bl + r * (max 0 (aa + (max 0 (-bl) + r - 1) / r) - aa) + (r * p - 1048576) * (pr l m).2) = 0))), (6, .bool (decide (stateE (max 0 (aa + (max 0 (-bl) + r - 1) / r) + (pr l m).2 * p) (bl + r * (max 0 (aa + (max 0 (-bl) + r - 1) / r) - aa) + (r * p - 1048576) * (pr l m).2) = 0)))] hF1 (by kernel_rfl) fun a1 hF1 => ?_
                        refine wpList_nil ?_
                        refine hK122 _ _ ?_
                        refine wp_ret ?_
                        refine hR118 _ _ ?_
                        refine ret_of hF1 hM (.tmp rfl (.nil)) ⟨_, rfl, ?_⟩
                        intro a hF
                        refine sB 1 [(95, .bool (!decide (stateE (max 0 (aa + (max 0 (-bl) + r - 1) / r) + (pr l m).2 * p) (bl + r * (max 0 (aa + (max 0 (-bl) + r - 1) / r) - aa) + (r * p - 1048576) * (pr l m).2) = 0)))] hF (by kernel_rfl) fun a hF => ?_
                        refine wpList_nil ?_
                        refine hK97 _ _ ?_
                        by_cases hz40 : stateE (max 0 (aa + (max 0 (-bl) + r - 1) / r) + (pr l m).2 * p) (bl + r * (max 0 (aa + (max 0 (-bl) + r - 1) / r) - aa) + (r * p - 1048576) * (pr l m).2) = 0
                        · skip
                          have hz41 := stateE_ok hz40
                          replace hF := hF.c hF (i := 94) (v := .bool true) rfl (bT hz40)
                          replace hF := hF.c hF (i := 95) (v := .bool false) rfl (nT hz40)
                          refine cF hF (by kernel_rfl) (by kernel_rfl) ?_
                          refine wp_skip ?_
                          refine hK46 _ _ ?_
                          refine wp_region_lit ?_
                          refine wl (eP 97 (v0 := .int .i64 (IntKind.i64.wrap ((m : Int) + 1))) (v := .int .i64 ((m : Int) + 1)) hF (by kernel_rfl) (fun _ => by kernel_rfl) (wi (by omega)) fun a hF => ?_)
                          refine sB 1 [(70, .int .i64 ((m : Int) + 1))] hF (by kernel_rfl) fun a hF => ?_
                          refine wpList_nil ?_
                          have hfa : freeAt free m = 0 := freeAt_out (by omega)
                          have hst := step_le (r := r) (p := p) (a := aa) (l := bl) (at_ := (pr l m).1) (free := 0) (size := (pr l m).2) hz35
                          have hA : stepAt r p aa bl (pr l m).1 (0) (pr l m).2 = stepStart r aa bl (pr l m).1 (0) + (pr l m).2 * p := rfl
                          have hL := hst.2
                          have hs1 : stepStart r aa bl (pr l m).1 (0) = max 0 (aa + (max 0 (-bl) + r - 1) / r) := by first | exact hst.1 | (rw [hst.1]; omega)
                          rw [hs1] at hA hL
                          have hRN := runAt_next (t := (pr l m).1) (s := (pr l m).2) hRA (pr_some (by omega)) (by rw [hfa, hA, hL]; exact stateB_of hz40)
                          rw [hfa, hA, hL, hs1] at hRN
                          refine hK43 _ _ ⟨(m + 1, max 0 (aa + (max 0 (-bl) + r - 1) / r) + (pr l m).2 * p, bl + r * (max 0 (aa + (max 0 (-bl) + r - 1) / r) - aa) + (r * p - 1048576) * (pr l m).2, got ++ [max 0 (aa + (max 0 (-bl) + r - 1) / r)], AA23, cc23), ⟨((((((((((Fr.nil hF).c hF (i := 69) rfl rfl).c hF (i := 68) rfl rfl).c hF (i := 17) rfl rfl).c hF (i := 16) rfl rfl).c hF (i := 15) rfl rfl).c hF (i := 7) rfl rfl).c hF (i := 3) rfl rfl).c hF (i := 2) rfl rfl).c hF (i := 70) rfl (vi (show ((m : Int) + 1 : Int) = ((m + 1) : Int) from by omega))), (hM.sub (((((((Sub.nil.c (k := 8) rfl rfl).c (k := 7) rfl rfl).c (k := 6) rfl rfl).c (k := 4) rfl rfl).c (k := 3) rfl rfl).c (k := 2) rfl rfl).c (k := 1) rfl rfl)), (show ((m + 1) : Int) ≤ (l.length : Int) from by omega), (show RunAt r p l free (m + 1) (got ++ [max 0 (aa + (max 0 (-bl) + r - 1) / r)]) (max 0 (aa + (max 0 (-bl) + r - 1) / r) + (pr l m).2 * p) (bl + r * (max 0 (aa + (max 0 (-bl) + r - 1) / r) - aa) + (r * p - 1048576) * (pr l m).2) from by exact hRN)⟩, (show l.length - (m + 1) < l.length - m from by omega)⟩
                        · skip
                          replace hF := hF.c hF (i := 94) (v := .bool false) rfl (bF hz40)
                          replace hF := hF.c hF (i := 95) (v := .bool true) rfl (nF hz40)
                          refine cT hF (by kernel_rfl) (by kernel_rfl) ?_
                          refine wp_seq_k fun K123 hK123 => ?_
                          refine wp_region_lit ?_
                          refine sB 2 [(96, .agg #[.int .i64 0, .int .i64 0]), (6, .slice none 0 0)] hF (by kernel_rfl) fun a hF => ?_
                          refine wl (sStore (i := 4) (off := 0) (cs' := #[.int .i64 0, .int .i64 0]) hF hM (by kernel_rfl) rfl rfl (by kernel_rfl) (by kernel_rfl) rfl (by kernel_rfl) fun w hM => ?_)
                          refine sB 1 [(8, .int .i64 6)] hF (by kernel_rfl) fun a hF => ?_
                          refine wpList_nil ?_
                          refine hK123 _ _ ?_
                          refine wp_ret ?_
                          refine hR0 _ _ ?_
                          refine ret_of hF hM (.tmp rfl (.cell (i := 4) rfl rfl (v := .agg #[.int .i64 0, .int .i64 0]) (by kernel_rfl) (.tmp rfl (.nil)))) ?_
                          have hfa : freeAt free m = 0 := freeAt_out (by omega)
                          have hst := step_le (r := r) (p := p) (a := aa) (l := bl) (at_ := (pr l m).1) (free := 0) (size := (pr l m).2) hz35
                          have hA : stepAt r p aa bl (pr l m).1 (0) (pr l m).2 = stepStart r aa bl (pr l m).1 (0) + (pr l m).2 * p := rfl
                          have hL := hst.2
                          have hs1 : stepStart r aa bl (pr l m).1 (0) = max 0 (aa + (max 0 (-bl) + r - 1) / r) := by first | exact hst.1 | (rw [hst.1]; omega)
                          rw [hs1] at hA hL
                          exact runPost_err (runS_bad5 (slopeB_of hz1) (trB_of hz3) (by omega) (args_of hall hfree) (runAt_big (t := (pr l m).1) (s := (pr l m).2) hRA (pr_some (by omega)) (by rw [hfa, hA, hL]; exact stateB_not hz40))) (by decide) ⟨rfl, hM.bel⟩
                      · skip
                        replace hF2 := hF2.c hF2 (i := 10) (v := .bool false) rfl (bF hz35)
                        refine cF hF2 (by kernel_rfl) (by kernel_rfl) ?_
                        refine wp_skip ?_
                        refine hK104 _ _ ?_
                        refine wp_seq_k fun K124 hK124 => ?_
                        refine rT 24 (by kernel_rfl) (by kernel_rfl) hM.drew ?_
                        refine eQ 11 (v0 := .pointer (some ⟨bb20, 0, none⟩)) (v := .pointer (some ⟨bb20, 0, none⟩)) hF2 (by kernel_rfl) (fun _ => by kernel_rfl) rfl fun a2 hF2 => ?_
                        refine eQ 12 (v0 := .pointer (some ⟨bb20, 0, none⟩)) (v := .pointer (some ⟨bb20, 0, none⟩)) hF2 (by kernel_rfl) (fun _ => by kernel_rfl) rfl fun a2 hF2 => ?_
                        refine eQ 13 (v0 := .pointer (some ⟨bb20, 0, none⟩)) (v := .pointer (some ⟨bb20, 0, none⟩)) hF2 (by kernel_rfl) (fun _ => by kernel_rfl) rfl fun a2 hF2 => ?_
                        refine eQ 14 (v0 := .pointer (some ⟨bb20, 2, none⟩)) (v := .pointer (some ⟨bb20, 2, none⟩)) hF2 (by kernel_rfl) (fun _ => by kernel_rfl) rfl fun a2 hF2 => ?_
                        refine eQ 15 (v0 := .pointer (some ⟨bb20, 3, none⟩)) (v := .pointer (some ⟨bb20, 3, none⟩)) hF2 (by kernel_rfl) (fun _ => by kernel_rfl) rfl fun a2 hF2 => ?_
                        refine eQL 16 21 3 (v := .int .i64 bl) hF2 (by kernel_rfl) rfl rfl (by kernel_rfl) (by kernel_rfl) fun a2 hF2 => ?_
                        refine eQ 17 (v0 := .pointer (some ⟨bb20, 0, none⟩)) (v := .pointer (some ⟨bb20, 0, none⟩)) hF2 (by kernel_rfl) (fun _ => by kernel_rfl) rfl fun a2 hF2 => ?_
                        refine eQ 18 (v0 := .pointer (some ⟨bb20, 0, none⟩)) (v := .pointer (some ⟨bb20, 0, none⟩)) hF2 (by kernel_rfl) (fun _ => by kernel_rfl) rfl fun a2 hF2 => ?_
                        refine eQ 19 (v0 := .pointer (some ⟨bb20, 0, none⟩)) (v := .pointer (some ⟨bb20, 0, none⟩)) hF2 (by kernel_rfl) (fun _ => by kernel_rfl) rfl fun a2 hF2 => ?_
                        refine eQ 20 (v0 := .pointer (some ⟨bb20, 0, none⟩)) (v := .pointer (some ⟨bb20, 0, none⟩)) hF2 (by kernel_rfl) (fun _ => by kernel_rfl) rfl fun a2 hF2 => ?_
                        refine eQL 21 21 0 (v := .int .i64 r) hF2 (by kernel_rfl) rfl rfl (by kernel_rfl) (by kernel_rfl) fun a2 hF2 => ?_
                        refine eQ 22 (v0 := .int .i64 (pr l m).1) (v := .int .i64 (pr l m).1) hF2 (by kernel_rfl) (fun _ => by kernel_rfl) rfl fun a2 hF2 => ?_
                        refine eQ 23 (v0 := .pointer (some ⟨bb20, 0, none⟩)) (v := .pointer (some ⟨bb20, 0, none⟩)) hF2 (by kernel_rfl) (fun _ => by kernel_rfl) rfl fun a2 hF2 => ?_
                        refine eQ 24 (v0 := .pointer (some ⟨bb20, 0, none⟩)) (v := .pointer (some ⟨bb20, 0, none⟩)) hF2 (by kernel_rfl) (fun _ => by kernel_rfl) rfl fun a2 hF2 => ?_
                        refine eQ 25 (v0 := .pointer (some ⟨bb20, 2, none⟩)) (v := .pointer (some ⟨bb20, 2, none⟩)) hF2 (by kernel_rfl) (fun _ => by kernel_rfl) rfl fun a2 hF2 => ?_
                        refine eQ 26 (v0 := .pointer (some ⟨bb20, 2, none⟩)) (v := .pointer (some ⟨bb20, 2, none⟩)) hF2 (by kernel_rfl) (fun _ => by kernel_rfl) rfl fun a2 hF2 => ?_
                        refine eQL 27 21 2 (v := .int .i64 aa) hF2 (by kernel_rfl) rfl rfl (by kernel_rfl) (by kernel_rfl) fun a2 hF2 => ?_
                        refine eQ 28 (v0 := .int .i64 (IntKind.i64.wrap ((pr l m).1 - aa))) (v := .int .i64 ((pr l m).1 - aa)) hF2 (by kernel_rfl) (fun _ => by kernel_rfl) (wi (by omega)) fun a2 hF2 => ?_
                        have hz42 : 1 ≤ r * ((pr l m).1 - aa) ∧ r * ((pr l m).1 - aa) ≤ 1125898833100800 := mul_bd (1) (1048575) (1) (1073741824) (by omega) (by omega) (by omega) (by omega) (by decide)
                        refine eQ 29 (v0 := .int .i64 (IntKind.i64.wrap (r * ((pr l m).1 - aa)))) (v := .int .i64 (r * ((pr l m).1 - aa))) hF2 (by kernel_rfl) (fun _ => by kernel_rfl) (wi (by omega)) fun a2 hF2 => ?_
                        refine eQ 30 (v0 := .int .i64 (IntKind.i64.wrap (bl + r * ((pr l m).1 - aa)))) (v := .int .i64 (bl + r * ((pr l m).1 - aa))) hF2 (by kernel_rfl) (fun _ => by kernel_rfl) (wi (by omega)) fun a2 hF2 => ?_
                        refine eQ 31 (v0 := .int .i64 (if bl + r * ((pr l m).1 - aa) < 0 then bl + r * ((pr l m).1 - aa) else 0)) (v := .int .i64 (min 0 (bl + r * ((pr l m).1 - aa)))) hF2 (by kernel_rfl) (fun _ => by kernel_rfl) (vi (min_if _ _)) fun a2 hF2 => ?_
                        refine eQ 32 (v0 := .pointer (some ⟨bb20, 0, none⟩)) (v := .pointer (some ⟨bb20, 0, none⟩)) hF2 (by kernel_rfl) (fun _ => by kernel_rfl) rfl fun a2 hF2 => ?_
                        refine eQ 33 (v0 := .pointer (some ⟨bb20, 2, none⟩)) (v := .pointer (some ⟨bb20, 2, none⟩)) hF2 (by kernel_rfl) (fun _ => by kernel_rfl) rfl fun a2 hF2 => ?_
                        refine eQ 34 (v0 := .pointer (some ⟨bb20, 3, none⟩)) (v := .pointer (some ⟨bb20, 3, none⟩)) hF2 (by kernel_rfl) (fun _ => by kernel_rfl) rfl fun a2 hF2 => ?_
                        refine wpQuiet_nil ?_
                        intro w hM
                        refine wl (sStore (i := 21) (off := 3) (cs' := #[.int .i64 r, .int .i64 p, .int .i64 aa, .int .i64 (min 0 (bl + r * ((pr l m).1 - aa)))]) hF2 hM (by kernel_rfl) rfl rfl (by kernel_rfl) (by kernel_rfl) rfl (by kernel_rfl) fun w hM => ?_)
                        refine wpList_nil ?_
                        refine hK124 _ _ ?_
                        refine wp_region_lit ?_
                        refine sB 5 [(35, .pointer (some ⟨bb20, 0, none⟩)), (36, .int .i64 (pr l m).1), (37, .pointer (some ⟨bb20, 0, none⟩)), (38, .pointer (some ⟨bb20, 2, none⟩)), (39, .pointer (some ⟨bb20, 2, none⟩))] hF2 (by kernel_rfl) fun a2 hF2 => ?_
                        refine wl (sStore (i := 21) (off := 2) (cs' := #[.int .i64 r, .int .i64 p, .int .i64 (pr l m).1, .int .i64 (min 0 (bl + r * ((pr l m).1 - aa)))]) hF2 hM (by kernel_rfl) rfl rfl (by kernel_rfl) (by kernel_rfl) rfl (by kernel_rfl) fun w hM => ?_)
                        refine wpList_nil ?_
                        refine hNR103 _ _ ?_
                        refine ret_ofN hF2 hM (.nil) ⟨_, rfl, ?_⟩
                        intro a1 hF1
                        refine wpList_nil ?_
                        refine hK102 _ _ ?_
                        refine wp_seq_k fun K125 hK125 => ?_
                        refine wp_region_lit ?_
                        refine sB 1 [(26, .int .i64 0)] hF1 (by kernel_rfl) fun a1 hF1 => ?_
                        refine wl (sC (f := 41) (args := #[.pointer (some ⟨bb20, 0, none⟩)]) hF1 (by kernel_rfl) rfl (by decide) (by kernel_rfl) (fun _ => by kernel_rfl) ?_)
                        refine enterK 31 Try.func41 rfl rfl rfl ?_
                        intro a2 hF2 QR126 hR126 hNR126
                        refine wp_seq_k fun K127 hK127 => ?_
                        refine wp_region_lit ?_
                        refine sB 1 [(2, .int .i64 0)] hF2 (by kernel_rfl) fun a2 hF2 => ?_
                        refine wpList_nil ?_
                        refine hK127 _ _ ?_
                        refine wp_seq_k fun K128 hK128 => ?_
                        refine wp_region_lit ?_
                        refine sB 4 [(4, .pointer (some ⟨bb20, 0, none⟩)), (5, .pointer (some ⟨bb20, 0, none⟩)), (6, .pointer (some ⟨bb20, 2, none⟩)), (7, .pointer (some ⟨bb20, 3, none⟩))] hF2 (by kernel_rfl) fun a2 hF2 => ?_
                        refine wl (eL 8 21 3 (v := .int .i64 (min 0 (bl + r * ((pr l m).1 - aa)))) hF2 hM (by kernel_rfl) rfl rfl (by kernel_rfl) (by kernel_rfl) fun a2 w hF2 hM => ?_)
                        refine wl (eP 9 (v0 := .int .i64 (IntKind.i64.wrap (0 - min 0 (bl + r * ((pr l m).1 - aa))))) (v := .int .i64 (-min 0 (bl + r * ((pr l m).1 - aa)))) hF2 (by kernel_rfl) (fun _ => by kernel_rfl) (vi (by rw [Int.zero_sub]; exact (w64 (by omega)))) fun a2 hF2 => ?_)
                        refine wl (eP 10 (v0 := .int .i64 (if -min 0 (bl + r * ((pr l m).1 - aa)) > 0 then -min 0 (bl + r * ((pr l m).1 - aa)) else 0)) (v := .int .i64 (max 0 (-min 0 (bl + r * ((pr l m).1 - aa))))) hF2 (by kernel_rfl) (fun _ => by kernel_rfl) (vi (max_if _ _)) fun a2 hF2 => ?_)
                        refine sB 1 [(3, .int .i64 (max 0 (-min 0 (bl + r * ((pr l m).1 - aa)))))] hF2 (by kernel_rfl) fun a2 hF2 => ?_
                        refine wpList_nil ?_
                        refine hK128 _ _ ?_
                        refine wp_seq_k fun K129 hK129 => ?_
                        refine rQ hM (by kernel_rfl) (by kernel_rfl) ?_
                        refine eQ 11 (v0 := .pointer (some ⟨bb20, 0, none⟩)) (v := .pointer (some ⟨bb20, 0, none⟩)) hF2 (by kernel_rfl) (fun _ => by kernel_rfl) rfl fun a2 hF2 => ?_
                        refine eQ 12 (v0 := .pointer (some ⟨bb20, 0, none⟩)) (v := .pointer (some ⟨bb20, 0, none⟩)) hF2 (by kernel_rfl) (fun _ => by kernel_rfl) rfl fun a2 hF2 => ?_
                        refine eQ 13 (v0 := .pointer (some ⟨bb20, 2, none⟩)) (v := .pointer (some ⟨bb20, 2, none⟩)) hF2 (by kernel_rfl) (fun _ => by kernel_rfl) rfl fun a2 hF2 => ?_
                        refine eQ 14 (v0 := .pointer (some ⟨bb20, 2, none⟩)) (v := .pointer (some ⟨bb20, 2, none⟩)) hF2 (by kernel_rfl) (fun _ => by kernel_rfl) rfl fun a2 hF2 => ?_
                        refine eQL 15 21 2 (v := .int .i64 (pr l m).1) hF2 (by kernel_rfl) rfl rfl (by kernel_rfl) (by kernel_rfl) fun a2 hF2 => ?_
                        refine eQ 16 (v0 := .int .i64 (max 0 (-min 0 (bl + r * ((pr l m).1 - aa))))) (v := .int .i64 (max 0 (-min 0 (bl + r * ((pr l m).1 - aa))))) hF2 (by kernel_rfl) (fun _ => by kernel_rfl) rfl fun a2 hF2 => ?_
                        refine eQ 17 (v0 := .pointer (some ⟨bb20, 0, none⟩)) (v := .pointer (some ⟨bb20, 0, none⟩)) hF2 (by kernel_rfl) (fun _ => by kernel_rfl) rfl fun a2 hF2 => ?_
                        refine eQ 18 (v0 := .pointer (some ⟨bb20, 0, none⟩)) (v := .pointer (some ⟨bb20, 0, none⟩)) hF2 (by kernel_rfl) (fun _ => by kernel_rfl) rfl fun a2 hF2 => ?_
                        refine eQ 19 (v0 := .pointer (some ⟨bb20, 0, none⟩)) (v := .pointer (some ⟨bb20, 0, none⟩)) hF2 (by kernel_rfl) (fun _ => by kernel_rfl) rfl fun a2 hF2 => ?_
                        refine eQ 20 (v0 := .pointer (some ⟨bb20, 0, none⟩)) (v := .pointer (some ⟨bb20, 0, none⟩)) hF2 (by kernel_rfl) (fun _ => by kernel_rfl) rfl fun a2 hF2 => ?_
                        refine eQL 21 21 0 (v := .int .i64 r) hF2 (by kernel_rfl) rfl rfl (by kernel_rfl) (by kernel_rfl) fun a2 hF2 => ?_
                        refine eQ 22 (v0 := .int .i64 (IntKind.i64.wrap (max 0 (-min 0 (bl + r * ((pr l m).1 - aa))) + r))) (v := .int .i64 (max 0 (-min 0 (bl + r * ((pr l m).1 - aa))) + r)) hF2 (by kernel_rfl) (fun _ => by kernel_rfl) (wi (by omega)) fun a2 hF2 => ?_
                        refine eQ 23 (v0 := .int .i64 (IntKind.i64.wrap (max 0 (-min 0 (bl + r * ((pr l m).1 - aa))) + r - 1))) (v := .int .i64 (max 0 (-min 0 (bl + r * ((pr l m).1 - aa))) + r - 1)) hF2 (by kernel_rfl) (fun _ => by kernel_rfl) (wi (by omega)) fun a2 hF2 => ?_
                        refine eQ 24 (v0 := .pointer (some ⟨bb20, 0, none⟩)) (v := .pointer (some ⟨bb20, 0, none⟩)) hF2 (by kernel_rfl) (fun _ => by kernel_rfl) rfl fun a2 hF2 => ?_
                        refine eQ 25 (v0 := .pointer (some ⟨bb20, 0, none⟩)) (v := .pointer (some ⟨bb20, 0, none⟩)) hF2 (by kernel_rfl) (fun _ => by kernel_rfl) rfl fun a2 hF2 => ?_
                        refine eQ 26 (v0 := .pointer (some ⟨bb20, 0, none⟩)) (v := .pointer (some ⟨bb20, 0, none⟩)) hF2 (by kernel_rfl) (fun _ => by kernel_rfl) rfl fun a2 hF2 => ?_
                        refine eQ 27 (v0 := .pointer (some ⟨bb20, 0, none⟩)) (v := .pointer (some ⟨bb20, 0, none⟩)) hF2 (by kernel_rfl) (fun _ => by kernel_rfl) rfl fun a2 hF2 => ?_
                        refine eQL 28 21 0 (v := .int .i64 r) hF2 (by kernel_rfl) rfl rfl (by kernel_rfl) (by kernel_rfl) fun a2 hF2 => ?_
                        refine eQ2 29 (v := .int .i64 ((max 0 (-min 0 (bl + r * ((pr l m).1 - aa))) + r - 1) / r)) hF2 (by kernel_rfl) (yld_quo (max 0 (-min 0 (bl + r * ((pr l m).1 - aa))) + r - 1) r hF2 rfl (by kernel_rfl) (by kernel_rfl) (by kernel_rfl) (by omega) (qpos_i64 (by omega) (by omega) (by omega))) fun a2 hF2 => ?_
                        have := ediv_le_self_of (p := max 0 (-min 0 (bl + r * ((pr l m).1 - aa))) + r - 1) (q := r) (by omega) (by omega)
                        refine eQ 30 (v0 := .int .i64 (IntKind.i64.wrap ((pr l m).1 + (max 0 (-min 0 (bl + r * ((pr l m).1 - aa))) + r - 1) / r))) (v := .int .i64 ((pr l m).1 + (max 0 (-min 0 (bl + r * ((pr l m).1 - aa))) + r - 1) / r)) hF2 (by kernel_rfl) (fun _ => by kernel_rfl) (wi (by omega)) fun a2 hF2 => ?_
                        refine eQ 2 (v0 := .int .i64 ((pr l m).1 + (max 0 (-min 0 (bl + r * ((pr l m).1 - aa))) + r - 1) / r)) (v := .int .i64 ((pr l m).1 + (max 0 (-min 0 (bl + r * ((pr l m).1 - aa))) + r - 1) / r)) hF2 (by kernel_rfl) (fun _ => by kernel_rfl) rfl fun a2 hF2 => ?_
                        refine wpQuiet_nil ?_
                        intro w hM
                        refine hK129 _ _ ?_
                        refine wp_ret ?_
                        refine hR126 _ _ ?_
                        refine ret_of hF2 hM (.tmp rfl (.nil)) ⟨_, rfl, ?_⟩
                        intro a1 hF1
                        refine wl (eP 28 (v0 := .int .i64 (if (pr l m).1 + (max 0 (-min 0 (bl + r * ((pr l m).1 - aa))) + r - 1) / r > 0 then (pr l m).1 + (max 0 (-min 0 (bl + r * ((pr l m).1 - aa))) + r - 1) / r else 0)) (v := .int .i64 ((pr l m).1 + (max 0 (-min 0 (bl + r * ((pr l m).1 - aa))) + r - 1) / r)) hF1 (by kernel_rfl) (fun _ => by kernel_rfl) (vi (if_pos (by omega))) fun a1 hF1 => ?_)
                        refine sB 1 [(16, .int .i64 ((pr l m).1 + (max 0 (-min 0 (bl + r * ((pr l m).1 - aa))) + r - 1) / r))] hF1 (by kernel_rfl) fun a1 hF1 => ?_
                        refine wpList_nil ?_
                        refine hK125 _ _ ?_
                        refine wp_seq_k fun K130 hK130 => ?_
                        refine wp_region_lit ?_
                        refine sB 2 [(29, .func (.func 39) #[.pointer (some ⟨bb20, 0, none⟩)] #[]), (30, .int .i64 ((pr l m).1 + (max 0 (-min 0 (bl + r * ((pr l m).1 - aa))) + r - 1) / r))] hF1 (by kernel_rfl) fun a1 hF1 => ?_
                        refine wl (sC (f := 39) (args := #[.pointer (some ⟨bb20, 0, none⟩), .int .i64 ((pr l m).1 + (max 0 (-min 0 (bl + r * ((pr l m).1 - aa))) + r - 1) / r)]) hF1 (by kernel_rfl) rfl (by decide) (by kernel_rfl) (fun _ => by kernel_rfl) ?_)
                        refine enterK 31 Try.func39 rfl rfl rfl ?_
                        intro a2 hF2 QR131 hR131 hNR131
                        refine wp_seq_k fun K132 hK132 => ?_
                        refine rT 22 (by kernel_rfl) (by kernel_rfl) hM.drew ?_
                        refine eQ 4 (v0 := .pointer (some ⟨bb20, 0, none⟩)) (v := .pointer (some ⟨bb20, 0, none⟩)) hF2 (by kernel_rfl) (fun _ => by kernel_rfl) rfl fun a2 hF2 => ?_
                        refine eQ 5 (v0 := .pointer (some ⟨bb20, 0, none⟩)) (v := .pointer (some ⟨bb20, 0, none⟩)) hF2 (by kernel_rfl) (fun _ => by kernel_rfl) rfl fun a2 hF2 => ?_
                        refine eQ 6 (v0 := .pointer (some ⟨bb20, 2, none⟩)) (v := .pointer (some ⟨bb20, 2, none⟩)) hF2 (by kernel_rfl) (fun _ => by kernel_rfl) rfl fun a2 hF2 => ?_
                        refine eQ 7 (v0 := .pointer (some ⟨bb20, 3, none⟩)) (v := .pointer (some ⟨bb20, 3, none⟩)) hF2 (by kernel_rfl) (fun _ => by kernel_rfl) rfl fun a2 hF2 => ?_
                        refine eQL 8 21 3 (v := .int .i64 (min 0 (bl + r * ((pr l m).1 - aa)))) hF2 (by kernel_rfl) rfl rfl (by kernel_rfl) (by kernel_rfl) fun a2 hF2 => ?_
                        refine eQ 9 (v0 := .pointer (some ⟨bb20, 0, none⟩)) (v := .pointer (some ⟨bb20, 0, none⟩)) hF2 (by kernel_rfl) (fun _ => by kernel_rfl) rfl fun a2 hF2 => ?_
                        refine eQ 10 (v0 := .pointer (some ⟨bb20, 0, none⟩)) (v := .pointer (some ⟨bb20, 0, none⟩)) hF2 (by kernel_rfl) (fun _ => by kernel_rfl) rfl fun a2 hF2 => ?_
                        refine eQ 11 (v0 := .pointer (some ⟨bb20, 0, none⟩)) (v := .pointer (some ⟨bb20, 0, none⟩)) hF2 (by kernel_rfl) (fun _ => by kernel_rfl) rfl fun a2 hF2 => ?_
                        refine eQ 12 (v0 := .pointer (some ⟨bb20, 0, none⟩)) (v := .pointer (some ⟨bb20, 0, none⟩)) hF2 (by kernel_rfl) (fun _ => by kernel_rfl) rfl fun a2 hF2 => ?_
                        refine eQL 13 21 0 (v := .int .i64 r) hF2 (by kernel_rfl) rfl rfl (by kernel_rfl) (by kernel_rfl) fun a2 hF2 => ?_
                        refine eQ 14 (v0 := .int .i64 ((pr l m).1 + (max 0 (-min 0 (bl + r * ((pr l m).1 - aa))) + r - 1) / r)) (v := .int .i64 ((pr l m).1 + (max 0 (-min 0 (bl + r * ((pr l m).1 - aa))) + r - 1) / r)) hF2 (by kernel_rfl) (fun _ => by kernel_rfl) rfl fun a2 hF2 => ?_
                        refine eQ 15 (v0 := .pointer (some ⟨bb20, 0, none⟩)) (v := .pointer (some ⟨bb20, 0, none⟩)) hF2 (by kernel_rfl) (fun _ => by kernel_rfl) rfl fun a2 hF2 => ?_
                        refine eQ 16 (v0 := .pointer (some ⟨bb20, 0, none⟩)) (v := .pointer (some ⟨bb20, 0, none⟩)) hF2 (by kernel_rfl) (fun _ => by kernel_rfl) rfl fun a2 hF2 => ?_
                        refine eQ 17 (v0 := .pointer (some ⟨bb20, 2, none⟩)) (v := .pointer (some ⟨bb20, 2, none⟩)) hF2 (by kernel_rfl) (fun _ => by kernel_rfl) rfl fun a2 hF2 => ?_
                        refine eQ 18 (v0 := .pointer (some ⟨bb20, 2, none⟩)) (v := .pointer (some ⟨bb20, 2, none⟩)) hF2 (by kernel_rfl) (fun _ => by kernel_rfl) rfl fun a2 hF2 => ?_
                        refine eQL 19 21 2 (v := .int .i64 (pr l m).1) hF2 (by kernel_rfl) rfl rfl (by kernel_rfl) (by kernel_rfl) fun a2 hF2 => ?_
                        refine eQ 20 (v0 := .int .i64 (IntKind.i64.wrap ((pr l m).1 + (max 0 (-min 0 (bl + r * ((pr l m).1 - aa))) + r - 1) / r - (pr l m).1))) (v := .int .i64 ((pr l m).1 + (max 0 (-min 0 (bl + r * ((pr l m).1 - aa))) + r - 1) / r - (pr l m).1)) hF2 (by kernel_rfl) (fun _ => by kernel_rfl) (wi (by omega)) fun a2 hF2 => ?_
                        have hz43 : 0 ≤ r * ((pr l m).1 + (max 0 (-min 0 (bl + r * ((pr l m).1 - aa))) + r - 1) / r - (pr l m).1) ∧ r * ((pr l m).1 + (max 0 (-min 0 (bl + r * ((pr l m).1 - aa))) + r - 1) / r - (pr l m).1) ≤ 1696544820559875 := mul_bd (1) (1048575) (0) (1617952765) (by omega) (by omega) (by omega) (by omega) (by decide)
                        refine eQ 21 (v0 := .int .i64 (IntKind.i64.wrap (r * ((pr l m).1 + (max 0 (-min 0 (bl + r * ((pr l m).1 - aa))) + r - 1) / r - (pr l m).1)))) (v := .int .i64 (r * ((pr l m).1 + (max 0 (-min 0 (bl + r * ((pr l m).1 - aa))) + r - 1) / r - (pr l m).1))) hF2 (by kernel_rfl) (fun _ => by kernel_rfl) (wi (by omega)) fun a2 hF2 => ?_
                        refine eQ 22 (v0 := .int .i64 (IntKind.i64.wrap (min 0 (bl + r * ((pr l m).1 - aa)) + r * ((pr l m).1 + (max 0 (-min 0 (bl + r * ((pr l m).1 - aa))) + r - 1) / r - (pr l m).1)))) (v := .int .i64 (min 0 (bl + r * ((pr l m).1 - aa)) + r * ((pr l m).1 + (max 0 (-min 0 (bl + r * ((pr l m).1 - aa))) + r - 1) / r - (pr l m).1))) hF2 (by kernel_rfl) (fun _ => by kernel_rfl) (wi (by omega)) fun a2 hF2 => ?_
                        refine eQ 23 (v0 := .pointer (some ⟨bb20, 0, none⟩)) (v := .pointer (some ⟨bb20, 0, none⟩)) hF2 (by kernel_rfl) (fun _ => by kernel_rfl) rfl fun a2 hF2 => ?_
                        refine eQ 24 (v0 := .pointer (some ⟨bb20, 2, none⟩)) (v := .pointer (some ⟨bb20, 2, none⟩)) hF2 (by kernel_rfl) (fun _ => by kernel_rfl) rfl fun a2 hF2 => ?_
                        refine eQ 25 (v0 := .pointer (some ⟨bb20, 3, none⟩)) (v := .pointer (some ⟨bb20, 3, none⟩)) hF2 (by kernel_rfl) (fun _ => by kernel_rfl) rfl fun a2 hF2 => ?_
                        refine wpQuiet_nil ?_
                        intro w hM
                        refine wl (sStore (i := 21) (off := 3) (cs' := #[.int .i64 r, .int .i64 p, .int .i64 (pr l m).1, .int .i64 (min 0 (bl + r * ((pr l m).1 - aa)) + r * ((pr l m).1 + (max 0 (-min 0 (bl + r * ((pr l m).1 - aa))) + r - 1) / r - (pr l m).1))]) hF2 hM (by kernel_rfl) rfl rfl (by kernel_rfl) (by kernel_rfl) rfl (by kernel_rfl) fun w hM => ?_)
                        refine wpList_nil ?_
                        refine hK132 _ _ ?_
                        refine wp_region_lit ?_
                        refine sB 5 [(26, .pointer (some ⟨bb20, 0, none⟩)), (27, .int .i64 ((pr l m).1 + (max 0 (-min 0 (bl + r * ((pr l m).1 - aa))) + r - 1) / r)), (28, .pointer (some ⟨bb20, 0, none⟩)), (29, .pointer (some ⟨bb20, 2, none⟩)), (30, .pointer (some ⟨bb20, 2, none⟩))] hF2 (by kernel_rfl) fun a2 hF2 => ?_
                        refine wl (sStore (i := 21) (off := 2) (cs' := #[.int .i64 r, .int .i64 p, .int .i64 ((pr l m).1 + (max 0 (-min 0 (bl + r * ((pr l m).1 - aa))) + r - 1) / r), .int .i64 (min 0 (bl + r * ((pr l m).1 - aa)) + r * ((pr l m).1 + (max 0 (-min 0 (bl + r * ((pr l m).1 - aa))) + r - 1) / r - (pr l m).1))]) hF2 hM (by kernel_rfl) rfl rfl (by kernel_rfl) (by kernel_rfl) rfl (by kernel_rfl) fun w hM => ?_)
                        refine wpList_nil ?_
                        refine hNR131 _ _ ?_
                        refine ret_ofN hF2 hM (.nil) ⟨_, rfl, ?_⟩
                        intro a1 hF1
                        refine wpList_nil ?_
                        refine hK130 _ _ ?_
                        refine wp_seq_k fun K133 hK133 => ?_
                        refine wp_region_lit ?_
                        refine sB 2 [(32, .func (.func 40) #[.pointer (some ⟨bb20, 0, none⟩)] #[]), (33, .int .i64 (pr l m).2)] hF1 (by kernel_rfl) fun a1 hF1 => ?_
                        refine wl (sC (f := 40) (args := #[.pointer (some ⟨bb20, 0, none⟩), .int .i64 (pr l m).2]) hF1 (by kernel_rfl) rfl (by decide) (by kernel_rfl) (fun _ => by kernel_rfl) ?_)
                        refine enterK 43 Try.func40 rfl rfl rfl ?_
                        intro a2 hF2 QR134 hR134 hNR134
                        refine wp_seq_k fun K135 hK135 => ?_
                        refine rT 23 (by kernel_rfl) (by kernel_rfl) hM.drew ?_
                        refine eQ 4 (v0 := .pointer (some ⟨bb20, 0, none⟩)) (v := .pointer (some ⟨bb20, 0, none⟩)) hF2 (by kernel_rfl) (fun _ => by kernel_rfl) rfl fun a2 hF2 => ?_
                        refine eQ 5 (v0 := .pointer (some ⟨bb20, 0, none⟩)) (v := .pointer (some ⟨bb20, 0, none⟩)) hF2 (by kernel_rfl) (fun _ => by kernel_rfl) rfl fun a2 hF2 => ?_
                        refine eQ 6 (v0 := .pointer (some ⟨bb20, 2, none⟩)) (v := .pointer (some ⟨bb20, 2, none⟩)) hF2 (by kernel_rfl) (fun _ => by kernel_rfl) rfl fun a2 hF2 => ?_
                        refine eQ 7 (v0 := .pointer (some ⟨bb20, 3, none⟩)) (v := .pointer (some ⟨bb20, 3, none⟩)) hF2 (by kernel_rfl) (fun _ => by kernel_rfl) rfl fun a2 hF2 => ?_
                        refine eQL 8 21 3 (v := .int .i64 (min 0 (bl + r * ((pr l m).1 - aa)) + r * ((pr l m).1 + (max 0 (-min 0 (bl + r * ((pr l m).1 - aa))) + r - 1) / r - (pr l m).1))) hF2 (by kernel_rfl) rfl rfl (by kernel_rfl) (by kernel_rfl) fun a2 hF2 => ?_
                        refine eQ 9 (v0 := .pointer (some ⟨bb20, 0, none⟩)) (v := .pointer (some ⟨bb20, 0, none⟩)) hF2 (by kernel_rfl) (fun _ => by kernel_rfl) rfl fun a2 hF2 => ?_
                        refine eQ 10 (v0 := .pointer (some ⟨bb20, 0, none⟩)) (v := .pointer (some ⟨bb20, 0, none⟩)) hF2 (by kernel_rfl) (fun _ => by kernel_rfl) rfl fun a2 hF2 => ?_
                        refine eQ 11 (v0 := .pointer (some ⟨bb20, 0, none⟩)) (v := .pointer (some ⟨bb20, 0, none⟩)) hF2 (by kernel_rfl) (fun _ => by kernel_rfl) rfl fun a2 hF2 => ?_
                        refine eQ 12 (v0 := .pointer (some ⟨bb20, 0, none⟩)) (v := .pointer (some ⟨bb20, 0, none⟩)) hF2 (by kernel_rfl) (fun _ => by kernel_rfl) rfl fun a2 hF2 => ?_
                        refine eQL 13 21 0 (v := .int .i64 r) hF2 (by kernel_rfl) rfl rfl (by kernel_rfl) (by kernel_rfl) fun a2 hF2 => ?_
                        refine eQ 14 (v0 := .pointer (some ⟨bb20, 0, none⟩)) (v := .pointer (some ⟨bb20, 0, none⟩)) hF2 (by kernel_rfl) (fun _ => by kernel_rfl) rfl fun a2 hF2 => ?_
                        refine eQ 15 (v0 := .pointer (some ⟨bb20, 0, none⟩)) (v := .pointer (some ⟨bb20, 0, none⟩)) hF2 (by kernel_rfl) (fun _ => by kernel_rfl) rfl fun a2 hF2 => ?_
                        refine eQ 16 (v0 := .pointer (some ⟨bb20, 0, none⟩)) (v := .pointer (some ⟨bb20, 0, none⟩)) hF2 (by kernel_rfl) (fun _ => by kernel_rfl) rfl fun a2 hF2 => ?_
                        refine eQ 17 (v0 := .pointer (some ⟨bb20, 1, none⟩)) (v := .pointer (some ⟨bb20, 1, none⟩)) hF2 (by kernel_rfl) (fun _ => by kernel_rfl) rfl fun a2 hF2 => ?_
                        refine eQL 18 21 1 (v := .int .i64 p) hF2 (by kernel_rfl) rfl rfl (by kernel_rfl) (by kernel_rfl) fun a2 hF2 => ?_
                        have hz44 : 1 ≤ r * p ∧ r * p ≤ 1048575000 := mul_bd (1) (1048575) (1) (1000) (by omega) (by omega) (by omega) (by omega) (by decide)
                        refine eQ 19 (v0 := .int .i64 (IntKind.i64.wrap (r * p))) (v := .int .i64 (r * p)) hF2 (by kernel_rfl) (fun _ => by kernel_rfl) (wi (by omega)) fun a2 hF2 => ?_
                        refine eQ 20 (v0 := .int .i64 (IntKind.i64.wrap (r * p - 1048576))) (v := .int .i64 (r * p - 1048576)) hF2 (by kernel_rfl) (fun _ => by kernel_rfl) (wi (by omega)) fun a2 hF2 => ?_
                        refine eQ 21 (v0 := .int .i64 (pr l m).2) (v := .int .i64 (pr l m).2) hF2 (by kernel_rfl) (fun _ => by kernel_rfl) rfl fun a2 hF2 => ?_
                        have hz45 : -1616902650 ≤ (r * p - 1048576) * (pr l m).2 ∧ (r * p - 1048576) * (pr l m).2 ≤ -1 := mul_bd (-1048575) (-1) (1) (1542) (by omega) (by omega) (by omega) (by omega) (by decide)
                        refine eQ 22 (v0 := .int .i64 (IntKind.i64.wrap ((r * p - 1048576) * (pr l m).2))) (v := .int .i64 ((r * p - 1048576) * (pr l m).2)) hF2 (by kernel_rfl) (fun _ => by kernel_rfl) (wi (by omega)) fun a2 hF2 => ?_
                        refine eQ 23 (v0 := .int .i64 (IntKind.i64.wrap (min 0 (bl + r * ((pr l m).1 - aa)) + r * ((pr l m).1 + (max 0 (-min 0 (bl + r * ((pr l m).1 - aa))) + r - 1) / r - (pr l m).1) + (r * p - 1048576) * (pr l m).2))) (v := .int .i64 (min 0 (bl + r * ((pr l m).1 - aa)) + r * ((pr l m).1 + (max 0 (-min 0 (bl + r * ((pr l m).1 - aa))) + r - 1) / r - (pr l m).1) + (r * p - 1048576) * (pr l m).2)) hF2 (by kernel_rfl) (fun _ => by kernel_rfl) (wi (by omega)) fun a2 hF2 => ?_
                        refine eQ 24 (v0 := .pointer (some ⟨bb20, 0, none⟩)) (v := .pointer (some ⟨bb20, 0, none⟩)) hF2 (by kernel_rfl) (fun _ => by kernel_rfl) rfl fun a2 hF2 => ?_
                        refine eQ 25 (v0 := .pointer (some ⟨bb20, 2, none⟩)) (v := .pointer (some ⟨bb20, 2, none⟩)) hF2 (by kernel_rfl) (fun _ => by kernel_rfl) rfl fun a2 hF2 => ?_
                        refine eQ 26 (v0 := .pointer (some ⟨bb20, 3, none⟩)) (v := .pointer (some ⟨bb20, 3, none⟩)) hF2 (by kernel_rfl) (fun _ => by kernel_rfl) rfl fun a2 hF2 => ?_
                        refine wpQuiet_nil ?_
                        intro w hM
                        refine wl (sStore (i := 21) (off := 3) (cs' := #[.int .i64 r, .int .i64 p, .int .i64 ((pr l m).1 + (max 0 (-min 0 (bl + r * ((pr l m).1 - aa))) + r - 1) / r), .int .i64 (min 0 (bl + r * ((pr l m).1 - aa)) + r * ((pr l m).1 + (max 0 (-min 0 (bl + r * ((pr l m).1 - aa))) + r - 1) / r - (pr l m).1) + (r * p - 1048576) * (pr l m).2)]) hF2 hM (by kernel_rfl) rfl rfl (by kernel_rfl) (by kernel_rfl) rfl (by kernel_rfl) fun w hM => ?_)
                        refine wpList_nil ?_
                        refine hK135 _ _ ?_
                        refine rT 16 (by kernel_rfl) (by kernel_rfl) hM.drew ?_
                        refine eQ 27 (v0 := .pointer (some ⟨bb20, 0, none⟩)) (v := .pointer (some ⟨bb20, 0, none⟩)) hF2 (by kernel_rfl) (fun _ => by kernel_rfl) rfl fun a2 hF2 => ?_
                        refine eQ 28 (v0 := .pointer (some ⟨bb20, 0, none⟩)) (v := .pointer (some ⟨bb20, 0, none⟩)) hF2 (by kernel_rfl) (fun _ => by kernel_rfl) rfl fun a2 hF2 => ?_
                        refine eQ 29 (v0 := .pointer (some ⟨bb20, 2, none⟩)) (v := .pointer (some ⟨bb20, 2, none⟩)) hF2 (by kernel_rfl) (fun _ => by kernel_rfl) rfl fun a2 hF2 => ?_
                        refine eQ 30 (v0 := .pointer (some ⟨bb20, 2, none⟩)) (v := .pointer (some ⟨bb20, 2, none⟩)) hF2 (by kernel_rfl) (fun _ => by kernel_rfl) rfl fun a2 hF2 => ?_
                        refine eQL 31 21 2 (v := .int .i64 ((pr l m).1 + (max 0 (-min 0 (bl + r * ((pr l m).1 - aa))) + r - 1) / r)) hF2 (by kernel_rfl) rfl rfl (by kernel_rfl) (by kernel_rfl) fun a2 hF2 => ?_
                        refine eQ 32 (v0 := .int .i64 (pr l m).2) (v := .int .i64 (pr l m).2) hF2 (by kernel_rfl) (fun _ => by kernel_rfl) rfl fun a2 hF2 => ?_
                        refine eQ 33 (v0 := .pointer (some ⟨bb20, 0, none⟩)) (v := .pointer (some ⟨bb20, 0, none⟩)) hF2 (by kernel_rfl) (fun _ => by kernel_rfl) rfl fun a2 hF2 => ?_
                        refine eQ 34 (v0 := .pointer (some ⟨bb20, 0, none⟩)) (v := .pointer (some ⟨bb20, 0, none⟩)) hF2 (by kernel_rfl) (fun _ => by kernel_rfl) rfl fun a2 hF2 => ?_
                        refine eQ 35 (v0 := .pointer (some ⟨bb20, 0, none⟩)) (v := .pointer (some ⟨bb20, 0, none⟩)) hF2 (by kernel_rfl) (fun _ => by kernel_rfl) rfl fun a2 hF2 => ?_
                        refine eQ 36 (v0 := .pointer (some ⟨bb20, 1, none⟩)) (v := .pointer (some ⟨bb20, 1, none⟩)) hF2 (by kernel_rfl) (fun _ => by kernel_rfl) rfl fun a2 hF2 => ?_
                        refine eQL 37 21 1 (v := .int .i64 p) hF2 (by kernel_rfl) rfl rfl (by kernel_rfl) (by kernel_rfl) fun a2 hF2 => ?_
                        have hz46 : 1 ≤ (pr l m).2 * p ∧ (pr l m).2 * p ≤ 1542000 := mul_bd (1) (1542) (1) (1000) (by omega) (by omega) (by omega) (by omega) (by decide)
                        refine eQ 38 (v0 := .int .i64 (IntKind.i64.wrap ((pr l m).2 * p))) (v := .int .i64 ((pr l m).2 * p)) hF2 (by kernel_rfl) (fun _ => by kernel_rfl) (wi (by omega)) fun a2 hF2 => ?_
                        refine eQ 39 (v0 := .int .i64 (IntKind.i64.wrap ((pr l m).1 + (max 0 (-min 0 (bl + r * ((pr l m).1 - aa))) + r - 1) / r + (pr l m).2 * p))) (v := .int .i64 ((pr l m).1 + (max 0 (-min 0 (bl + r * ((pr l m).1 - aa))) + r - 1) / r + (pr l m).2 * p)) hF2 (by kernel_rfl) (fun _ => by kernel_rfl) (wi (by omega)) fun a2 hF2 => ?_
                        refine eQ 40 (v0 := .pointer (some ⟨bb20, 0, none⟩)) (v := .pointer (some ⟨bb20, 0, none⟩)) hF2 (by kernel_rfl) (fun _ => by kernel_rfl) rfl fun a2 hF2 => ?_
                        refine eQ 41 (v0 := .pointer (some ⟨bb20, 2, none⟩)) (v := .pointer (some ⟨bb20, 2, none⟩)) hF2 (by kernel_rfl) (fun _ => by kernel_rfl) rfl fun a2 hF2 => ?_
                        refine eQ 42 (v0 := .pointer (some ⟨bb20, 2, none⟩)) (v := .pointer (some ⟨bb20, 2, none⟩)) hF2 (by kernel_rfl) (fun _ => by kernel_rfl) rfl fun a2 hF2 => ?_
                        refine wpQuiet_nil ?_
                        intro w hM
                        refine wl (sStore (i := 21) (off := 2) (cs' := #[.int .i64 r, .int .i64 p, .int .i64 ((pr l m).1 + (max 0 (-min 0 (bl + r * ((pr l m).1 - aa))) + r - 1) / r + (pr l m).2 * p), .int .i64 (min 0 (bl + r * ((pr l m).1 - aa)) + r * ((pr l m).1 + (max 0 (-min 0 (bl + r * ((pr l m).1 - aa))) + r - 1) / r - (pr l m).1) + (r * p - 1048576) * (pr l m).2)]) hF2 hM (by kernel_rfl) rfl rfl (by kernel_rfl) (by kernel_rfl) rfl (by kernel_rfl) fun w hM => ?_)
                        refine wpList_nil ?_
                        refine hNR134 _ _ ?_
                        refine ret_ofN hF2 hM (.nil) ⟨_, rfl, ?_⟩
                        intro a1 hF1
                        refine wpList_nil ?_
                        refine hK133 _ _ ?_
                        refine wp_seq_k fun K136 hK136 => ?_
                        refine rT 4 (by kernel_rfl) (by kernel_rfl) hM.drew ?_
                        refine eQ 35 (v0 := .int .i64 ((pr l m).1 + (max 0 (-min 0 (bl + r * ((pr l m).1 - aa))) + r - 1) / r)) (v := .int .i64 ((pr l m).1 + (max 0 (-min 0 (bl + r * ((pr l m).1 - aa))) + r - 1) / r)) hF1 (by kernel_rfl) (fun _ => by kernel_rfl) rfl fun a1 hF1 => ?_
                        refine eQ 36 (v0 := .pointer (some ⟨bb20, 2, none⟩)) (v := .pointer (some ⟨bb20, 2, none⟩)) hF1 (by kernel_rfl) (fun _ => by kernel_rfl) rfl fun a1 hF1 => ?_
                        refine eQL 37 21 2 (v := .agg #[.int .i64 ((pr l m).1 + (max 0 (-min 0 (bl + r * ((pr l m).1 - aa))) + r - 1) / r + (pr l m).2 * p), .int .i64 (min 0 (bl + r * ((pr l m).1 - aa)) + r * ((pr l m).1 + (max 0 (-min 0 (bl + r * ((pr l m).1 - aa))) + r - 1) / r - (pr l m).1) + (r * p - 1048576) * (pr l m).2)]) hF1 (by kernel_rfl) rfl rfl (by kernel_rfl) (by kernel_rfl) fun a1 hF1 => ?_
                        refine eQ 10 (v0 := .int .i64 ((pr l m).1 + (max 0 (-min 0 (bl + r * ((pr l m).1 - aa))) + r - 1) / r)) (v := .int .i64 ((pr l m).1 + (max 0 (-min 0 (bl + r * ((pr l m).1 - aa))) + r - 1) / r)) hF1 (by kernel_rfl) (fun _ => by kernel_rfl) rfl fun a1 hF1 => ?_
                        refine wpQuiet_nil ?_
                        intro w hM
                        refine wl (sStore (i := 20) (off := 0) (cs' := #[.int .i64 ((pr l m).1 + (max 0 (-min 0 (bl + r * ((pr l m).1 - aa))) + r - 1) / r + (pr l m).2 * p), .int .i64 (min 0 (bl + r * ((pr l m).1 - aa)) + r * ((pr l m).1 + (max 0 (-min 0 (bl + r * ((pr l m).1 - aa))) + r - 1) / r - (pr l m).1) + (r * p - 1048576) * (pr l m).2)]) hF1 hM (by kernel_rfl) rfl rfl (by kernel_rfl) (by kernel_rfl) rfl (by kernel_rfl) fun w hM => ?_)
                        refine wpList_nil ?_
                        refine hK136 _ _ ?_
                        refine wp_ret ?_
                        refine hR98 _ _ ?_
                        refine ret_of hF1 hM (.tmp rfl (.cell (i := 20) rfl rfl (v := .agg #[.int .i64 ((pr l m).1 + (max 0 (-min 0 (bl + r * ((pr l m).1 - aa))) + r - 1) / r + (pr l m).2 * p), .int .i64 (min 0 (bl + r * ((pr l m).1 - aa)) + r * ((pr l m).1 + (max 0 (-min 0 (bl + r * ((pr l m).1 - aa))) + r - 1) / r - (pr l m).1) + (r * p - 1048576) * (pr l m).2)]) (by kernel_rfl) (.nil))) ⟨_, rfl, ?_⟩
                        intro a hF
                        refine sB 2 [(92, .int .i64 ((pr l m).1 + (max 0 (-min 0 (bl + r * ((pr l m).1 - aa))) + r - 1) / r)), (93, .agg #[.int .i64 ((pr l m).1 + (max 0 (-min 0 (bl + r * ((pr l m).1 - aa))) + r - 1) / r + (pr l m).2 * p), .int .i64 (min 0 (bl + r * ((pr l m).1 - aa)) + r * ((pr l m).1 + (max 0 (-min 0 (bl + r * ((pr l m).1 - aa))) + r - 1) / r - (pr l m).1) + (r * p - 1048576) * (pr l m).2)])] hF (by kernel_rfl) fun a hF => ?_
                        refine wl (sC (f := 28) (args := #[.int .i64 ((pr l m).1 + (max 0 (-min 0 (bl + r * ((pr l m).1 - aa))) + r - 1) / r), .agg #[.int .i64 ((pr l m).1 + (max 0 (-min 0 (bl + r * ((pr l m).1 - aa))) + r - 1) / r + (pr l m).2 * p), .int .i64 (min 0 (bl + r * ((pr l m).1 - aa)) + r * ((pr l m).1 + (max 0 (-min 0 (bl + r * ((pr l m).1 - aa))) + r - 1) / r - (pr l m).1) + (r * p - 1048576) * (pr l m).2)], .pointer (some ⟨bb4, 0, none⟩), .pointer (some ⟨bb5, 0, none⟩)]) hF (by kernel_rfl) rfl (by decide) (by kernel_rfl) (fun _ => by kernel_rfl) ?_)
                        refine enterK 15 Try.func28 rfl rfl rfl ?_
                        intro a1 hF1 QR137 hR137 hNR137
                        refine wp_seq_k fun K138 hK138 => ?_
                        refine wp_region_lit ?_
                        refine wl (eN 5 24 (t := 40) (fun b => .pointer (some ⟨b, 0, none⟩)) #[.int .i64 ((pr l m).1 + (max 0 (-min 0 (bl + r * ((pr l m).1 - aa))) + r - 1) / r + (pr l m).2 * p), .int .i64 (min 0 (bl + r * ((pr l m).1 - aa)) + r * ((pr l m).1 + (max 0 (-min 0 (bl + r * ((pr l m).1 - aa))) + r - 1) / r - (pr l m).1) + (r * p - 1048576) * (pr l m).2)] hF1 hM (by kernel_rfl) (fun _ => by kernel_rfl) fun bb24 a1 w hF1 hM => ?_)
                        refine sB 1 [(6, .bool false)] hF1 (by kernel_rfl) fun a1 hF1 => ?_
                        refine wpList_nil ?_
                        refine hK138 _ _ ?_
                        refine wp_seq_k fun K139 hK139 => ?_
                        refine wp_region_lit ?_
                        refine wl (eL 7 6 0 (v := .slice G m gc) hF1 hM (by kernel_rfl) rfl rfl (by kernel_rfl) (by kernel_rfl) fun a1 w hF1 hM => ?_)
                        refine sB 1 [(8, .int .i64 ((pr l m).1 + (max 0 (-min 0 (bl + r * ((pr l m).1 - aa))) + r - 1) / r))] hF1 (by kernel_rfl) fun a1 hF1 => ?_
                        refine wl (eN 9 25 (t := 3) (fun b => .slice (some ⟨b, 0, none⟩) 1 1) #[.int .i64 ((pr l m).1 + (max 0 (-min 0 (bl + r * ((pr l m).1 - aa))) + r - 1) / r)] hF1 hM (by kernel_rfl) (fun _ => by kernel_rfl) fun bb25 a1 w hF1 hM => ?_)
                        refine wl (sApp 10 8 (e := 3) (size := 1) (bytes := 8) (z := .int .i64 0) (m := 1) (c := 1) (l := m) (cap := gc) (A := G) (news := [.int .i64 ((pr l m).1 + (max 0 (-min 0 (bl + r * ((pr l m).1 - aa))) + r - 1) / r)]) ((got ++ [(pr l m).1 + (max 0 (-min 0 (bl + r * ((pr l m).1 - aa))) + r - 1) / r]).map (Value.int .i64)) hF1 hM (by kernel_rfl) rfl (by kernel_rfl) (by kernel_rfl) (by kernel_rfl) rfl rfl rfl rfl (roR 25 rfl) (by simp [Value.oneCell']) (by omega) (by decide) (map_snoc' _ _ _) fun AA26 cc26 a1 w hF1 hM => ?_)
                        refine wl (sStore (i := 6) (off := 0) (cs' := #[.slice AA26 (m + 1) cc26]) hF1 hM (by kernel_rfl) rfl rfl (by kernel_rfl) (by kernel_rfl) rfl (by kernel_rfl) fun w hM => ?_)
                        refine wpList_nil ?_
                        refine hK139 _ _ ?_
                        refine wp_seq_k fun K140 hK140 => ?_
                        refine wp_region_lit ?_
                        refine wl (eL 11 24 0 (v := .agg #[.int .i64 ((pr l m).1 + (max 0 (-min 0 (bl + r * ((pr l m).1 - aa))) + r - 1) / r + (pr l m).2 * p), .int .i64 (min 0 (bl + r * ((pr l m).1 - aa)) + r * ((pr l m).1 + (max 0 (-min 0 (bl + r * ((pr l m).1 - aa))) + r - 1) / r - (pr l m).1) + (r * p - 1048576) * (pr l m).2)]) hF1 hM (by kernel_rfl) rfl rfl (by kernel_rfl) (by kernel_rfl) fun a1 w hF1 hM => ?_)
                        refine wl (sStore (i := 7) (off := 0) (cs' := #[.int .i64 ((pr l m).1 + (max 0 (-min 0 (bl + r * ((pr l m).1 - aa))) + r - 1) / r + (pr l m).2 * p), .int .i64 (min 0 (bl + r * ((pr l m).1 - aa)) + r * ((pr l m).1 + (max 0 (-min 0 (bl + r * ((pr l m).1 - aa))) + r - 1) / r - (pr l m).1) + (r * p - 1048576) * (pr l m).2)]) hF1 hM (by kernel_rfl) rfl rfl (by kernel_rfl) (by kernel_rfl) rfl (by kernel_rfl) fun w hM => ?_)
                        refine wpList_nil ?_
                        refine hK140 _ _ ?_
                        refine wp_seq_k fun K141 hK141 => ?_
                        refine wp_region_lit ?_
                        refine wl (eL 12 24 0 (v := .agg #[.int .i64 ((pr l m).1 + (max 0 (-min 0 (bl + r * ((pr l m).1 - aa))) + r - 1) / r + (pr l m).2 * p), .int .i64 (min 0 (bl + r * ((pr l m).1 - aa)) + r * ((pr l m).1 + (max 0 (-min 0 (bl + r * ((pr l m).1 - aa))) + r - 1) / r - (pr l m).1) + (r * p - 1048576) * (pr l m).2)]) hF1 hM (by kernel_rfl) rfl rfl (by kernel_rfl) (by kernel_rfl) fun a1 w hF1 hM => ?_)
                        refine wl (eM 13 (v := .int .i64 (stateE ((pr l m).1 + (max 0 (-min 0 (bl + r * ((pr l m).1 - aa))) + r - 1) / r + (pr l m).2 * p) (min 0 (bl + r * ((pr l m).1 - aa)) + r * ((pr l m).1 + (max 0 (-min 0 (bl + r * ((pr l m).1 - aa))) + r - 1) / r - (pr l m).1) + (r * p - 1048576) * (pr l m).2))) hF1 hM (by kernel_rfl) (yld_call (f := 18) (args := #[.agg #[.int .i64 ((pr l m).1 + (max 0 (-min 0 (bl + r * ((pr l m).1 - aa))) + r - 1) / r + (pr l m).2 * p), .int .i64 (min 0 (bl + r * ((pr l m).1 - aa)) + r * ((pr l m).1 + (max 0 (-min 0 (bl + r * ((pr l m).1 - aa))) + r - 1) / r - (pr l m).1) + (r * p - 1048576) * (pr l m).2)]]) hF1 (by kernel_rfl) (fun _ => by kernel_rfl) (fun w hM => crState_w ((pr l m).1 + (max 0 (-min 0 (bl + r * ((pr l m).1 - aa))) + r - 1) / r + (pr l m).2 * p) (min 0 (bl + r * ((pr l m).1 - aa)) + r * ((pr l m).1 + (max 0 (-min 0 (bl + r * ((pr l m).1 - aa))) + r - 1) / r - (pr l m).1) + (r * p - 1048576) * (pr l m).2) w)) fun a1 w hF1 hM => ?_)
                        refine sB 2 [(14, .bool (decide (stateE ((pr l m).1 + (max 0 (-min 0 (bl + r * ((pr l m).1 - aa))) + r - 1) / r + (pr l m).2 * p) (min 0 (bl + r * ((pr l m).1 - aa)) + r * ((pr l m).1 + (max 0 (-min 0 (bl + r * ((pr l m).1 - aa))) + r - 1) / r - (pr l m).1) + (r * p - 1048576) * (pr l m).2) = 0))), (6, .bool (decide (stateE ((pr l m).1 + (max 0 (-min 0 (bl + r * ((pr l m).1 - aa))) + r - 1) / r + (pr l m).2 * p) (min 0 (bl + r * ((pr l m).1 - aa)) + r * ((pr l m).1 + (max 0 (-min 0 (bl + r * ((pr l m).1 - aa))) + r - 1) / r - (pr l m).1) + (r * p - 1048576) * (pr l m).2) = 0)))] hF1 (by kernel_rfl) fun a1 hF1 => ?_
                        refine wpList_nil ?_
                        refine hK141 _ _ ?_
                        refine wp_ret ?_
                        refine hR137 _ _ ?_
                        refine ret_of hF1 hM (.tmp rfl (.nil)) ⟨_, rfl, ?_⟩
                        intro a hF
                        refine sB 1 [(95, .bool (!decide (stateE ((pr l m).1 + (max 0 (-min 0 (bl + r * ((pr l m).1 - aa))) + r - 1) / r + (pr l m).2 * p) (min 0 (bl + r * ((pr l m).1 - aa)) + r * ((pr l m).1 + (max 0 (-min 0 (bl + r * ((pr l m).1 - aa))) + r - 1) / r - (pr l m).1) + (r * p - 1048576) * (pr l m).2) = 0)))] hF (by kernel_rfl) fun a hF => ?_
                        refine wpList_nil ?_
                        refine hK97 _ _ ?_
                        by_cases hz47 : stateE ((pr l m).1 + (max 0 (-min 0 (bl + r * ((pr l m).1 - aa))) + r - 1) / r + (pr l m).2 * p) (min 0 (bl + r * ((pr l m).1 - aa)) + r * ((pr l m).1 + (max 0 (-min 0 (bl + r * ((pr l m).1 - aa))) + r - 1) / r - (pr l m).1) + (r * p - 1048576) * (pr l m).2) = 0
                        · skip
                          have hz48 := stateE_ok hz47
                          replace hF := hF.c hF (i := 94) (v := .bool true) rfl (bT hz47)
                          replace hF := hF.c hF (i := 95) (v := .bool false) rfl (nT hz47)
                          refine cF hF (by kernel_rfl) (by kernel_rfl) ?_
                          refine wp_skip ?_
                          refine hK46 _ _ ?_
                          refine wp_region_lit ?_
                          refine wl (eP 97 (v0 := .int .i64 (IntKind.i64.wrap ((m : Int) + 1))) (v := .int .i64 ((m : Int) + 1)) hF (by kernel_rfl) (fun _ => by kernel_rfl) (wi (by omega)) fun a hF => ?_)
                          refine sB 1 [(70, .int .i64 ((m : Int) + 1))] hF (by kernel_rfl) fun a hF => ?_
                          refine wpList_nil ?_
                          have hfa : freeAt free m = 0 := freeAt_out (by omega)
                          have hst := step_gt (r := r) (p := p) (a := aa) (l := bl) (at_ := (pr l m).1) (free := 0) (size := (pr l m).2) hz35
                          have hA : stepAt r p aa bl (pr l m).1 (0) (pr l m).2 = stepStart r aa bl (pr l m).1 (0) + (pr l m).2 * p := rfl
                          have hL := hst.2
                          have hs1 : stepStart r aa bl (pr l m).1 (0) = (pr l m).1 + (max 0 (-min 0 (bl + r * ((pr l m).1 - aa))) + r - 1) / r := by first | exact hst.1 | (rw [hst.1]; omega)
                          rw [hs1] at hA hL
                          have hRN := runAt_next (t := (pr l m).1) (s := (pr l m).2) hRA (pr_some (by omega)) (by rw [hfa, hA, hL]; exact stateB_of hz47)
                          rw [hfa, hA, hL, hs1] at hRN
                          refine hK43 _ _ ⟨(m + 1, (pr l m).1 + (max 0 (-min 0 (bl + r * ((pr l m).1 - aa))) + r - 1) / r + (pr l m).2 * p, min 0 (bl + r * ((pr l m).1 - aa)) + r * ((pr l m).1 + (max 0 (-min 0 (bl + r * ((pr l m).1 - aa))) + r - 1) / r - (pr l m).1) + (r * p - 1048576) * (pr l m).2, got ++ [(pr l m).1 + (max 0 (-min 0 (bl + r * ((pr l m).1 - aa))) + r - 1) / r], AA26, cc26), ⟨((((((((((Fr.nil hF).c hF (i := 69) rfl rfl).c hF (i := 68) rfl rfl).c hF (i := 17) rfl rfl).c hF (i := 16) rfl rfl).c hF (i := 15) rfl rfl).c hF (i := 7) rfl rfl).c hF (i := 3) rfl rfl).c hF (i := 2) rfl rfl).c hF (i := 70) rfl (vi (show ((m : Int) + 1 : Int) = ((m + 1) : Int) from by omega))), (hM.sub (((((((Sub.nil.c (k := 8) rfl rfl).c (k := 7) rfl rfl).c (k := 6) rfl rfl).c (k := 4) rfl rfl).c (k := 3) rfl rfl).c (k := 2) rfl rfl).c (k := 1) rfl rfl)), (show ((m + 1) : Int) ≤ (l.length : Int) from by omega), (show RunAt r p l free (m + 1) (got ++ [(pr l m).1 + (max 0 (-min 0 (bl + r * ((pr l m).1 - aa))) + r - 1) / r]) ((pr l m).1 + (max 0 (-min 0 (bl + r * ((pr l m).1 - aa))) + r - 1) / r + (pr l m).2 * p) (min 0 (bl + r * ((pr l m).1 - aa)) + r * ((pr l m).1 + (max 0 (-min 0 (bl + r * ((pr l m).1 - aa))) + r - 1) / r - (pr l m).1) + (r * p - 1048576) * (pr l m).2) from by exact hRN)⟩, (show l.length - (m + 1) < l.length - m from by omega)⟩
                        · skip
                          replace hF := hF.c hF (i := 94) (v := .bool false) rfl (bF hz47)
                          replace hF := hF.c hF (i := 95) (v := .bool true) rfl (nF hz47)
                          refine cT hF (by kernel_rfl) (by kernel_rfl) ?_
                          refine wp_seq_k fun K142 hK142 => ?_
                          refine wp_region_lit ?_
                          refine sB 2 [(96, .agg #[.int .i64 0, .int .i64 0]), (6, .slice none 0 0)] hF (by kernel_rfl) fun a hF => ?_
                          refine wl (sStore (i := 4) (off := 0) (cs' := #[.int .i64 0, .int .i64 0]) hF hM (by kernel_rfl) rfl rfl (by kernel_rfl) (by kernel_rfl) rfl (by kernel_rfl) fun w hM => ?_)
                          refine sB 1 [(8, .int .i64 6)] hF (by kernel_rfl) fun a hF => ?_
                          refine wpList_nil ?_
                          refine hK142 _ _ ?_
                          refine wp_ret ?_
                          refine hR0 _ _ ?_
                          refine ret_of hF hM (.tmp rfl (.cell (i := 4) rfl rfl (v := .agg #[.int .i64 0, .int .i64 0]) (by kernel_rfl) (.tmp rfl (.nil)))) ?_
                          have hfa : freeAt free m = 0 := freeAt_out (by omega)
                          have hst := step_gt (r := r) (p := p) (a := aa) (l := bl) (at_ := (pr l m).1) (free := 0) (size := (pr l m).2) hz35
                          have hA : stepAt r p aa bl (pr l m).1 (0) (pr l m).2 = stepStart r aa bl (pr l m).1 (0) + (pr l m).2 * p := rfl
                          have hL := hst.2
                          have hs1 : stepStart r aa bl (pr l m).1 (0) = (pr l m).1 + (max 0 (-min 0 (bl + r * ((pr l m).1 - aa))) + r - 1) / r := by first | exact hst.1 | (rw [hst.1]; omega)
                          rw [hs1] at hA hL
                          exact runPost_err (runS_bad5 (slopeB_of hz1) (trB_of hz3) (by omega) (args_of hall hfree) (runAt_big (t := (pr l m).1) (s := (pr l m).2) hRA (pr_some (by omega)) (by rw [hfa, hA, hL]; exact stateB_not hz47))) (by decide) ⟨rfl, hM.bel⟩
                  · skip
                    replace hF := hF.c hF (i := 71) (v := .bool false) rfl (bF hz19)
                    refine cF hF (by kernel_rfl) (by kernel_rfl) ?_
                    refine wp_exit ?_
                    refine hK41 _ _ ?_
                    refine wp_seq_k fun K143 hK143 => ?_
                    refine rT 3 (by kernel_rfl) (by kernel_rfl) hM.drew ?_
                    refine eQL 98 6 0 (v := .slice G m gc) hF (by kernel_rfl) rfl rfl (by kernel_rfl) (by kernel_rfl) fun a hF => ?_
                    refine eQL 99 7 0 (v := .agg #[.int .i64 aa, .int .i64 bl]) hF (by kernel_rfl) rfl rfl (by kernel_rfl) (by kernel_rfl) fun a hF => ?_
                    refine eQ 6 (v0 := .slice G m gc) (v := .slice G m gc) hF (by kernel_rfl) (fun _ => by kernel_rfl) rfl fun a hF => ?_
                    refine wpQuiet_nil ?_
                    intro w hM
                    refine wl (sStore (i := 4) (off := 0) (cs' := #[.int .i64 aa, .int .i64 bl]) hF hM (by kernel_rfl) rfl rfl (by kernel_rfl) (by kernel_rfl) rfl (by kernel_rfl) fun w hM => ?_)
                    refine sB 1 [(8, .int .i64 0)] hF (by kernel_rfl) fun a hF => ?_
                    refine wpList_nil ?_
                    refine hK143 _ _ ?_
                    refine wp_ret ?_
                    refine hR0 _ _ ?_
                    refine ret_of hF hM (.tmp rfl (.cell (i := 4) rfl rfl (v := .agg #[.int .i64 aa, .int .i64 bl]) (by kernel_rfl) (.tmp rfl (.nil)))) ?_
                    have hlen : got.length = m := hRA.1
                    have hrs := runS_ok (slopeB_of hz1) (trB_of hz3) (by omega) (args_of hall hfree) (runAt_end hRA (by omega))
                    have ho := hM.ok 8 _ rfl
                    rw [hrs]
                    exact ⟨fun _ => ⟨_, _, by rw [hlen]; rfl, by rw [hlen]; exact ho, hM.bel⟩, fun h => absurd rfl h⟩
    · skip
      replace hF := hF.c hF (i := 30) (v := .bool true) rfl (nF hz3)
      refine cT hF (by kernel_rfl) (by kernel_rfl) ?_
      refine wp_seq_k fun K144 hK144 => ?_
      refine wp_region_lit ?_
      refine sB 3 [(31, .agg #[.int .i64 0, .int .i64 0]), (32, .int .i64 (trE l)), (6, .slice none 0 0)] hF (by kernel_rfl) fun a hF => ?_
      refine wl (sStore (i := 4) (off := 0) (cs' := #[.int .i64 0, .int .i64 0]) hF hM (by kernel_rfl) rfl rfl (by kernel_rfl) (by kernel_rfl) rfl (by kernel_rfl) fun w hM => ?_)
      refine sB 1 [(8, .int .i64 (trE l))] hF (by kernel_rfl) fun a hF => ?_
      refine wpList_nil ?_
      refine hK144 _ _ ?_
      refine wp_ret ?_
      refine hR0 _ _ ?_
      refine ret_of hF hM (.tmp rfl (.cell (i := 4) rfl rfl (v := .agg #[.int .i64 0, .int .i64 0]) (by kernel_rfl) (.tmp rfl (.nil)))) ?_
      exact runPost_err (runS_bad2 (slopeB_of hz1) (trB_not hz3)) (by decide) ⟨ret_eq (by rw [trE_no' hz3]; rfl), hM.bel⟩
  · skip
    replace hF := hF.c hF (i := 24) (v := .bool true) rfl (nF hz1)
    refine cT hF (by kernel_rfl) (by kernel_rfl) ?_
    refine wp_seq_k fun K145 hK145 => ?_
    refine wp_region_lit ?_
    refine sB 3 [(25, .agg #[.int .i64 0, .int .i64 0]), (26, .int .i64 (slopeE r p)), (6, .slice none 0 0)] hF (by kernel_rfl) fun a hF => ?_
    refine wl (sStore (i := 4) (off := 0) (cs' := #[.int .i64 0, .int .i64 0]) hF hM (by kernel_rfl) rfl rfl (by kernel_rfl) (by kernel_rfl) rfl (by kernel_rfl) fun w hM => ?_)
    refine sB 1 [(8, .int .i64 (slopeE r p))] hF (by kernel_rfl) fun a hF => ?_
    refine wpList_nil ?_
    refine hK145 _ _ ?_
    refine wp_ret ?_
    refine hR0 _ _ ?_
    refine ret_of hF hM (.tmp rfl (.cell (i := 4) rfl rfl (v := .agg #[.int .i64 0, .int .i64 0]) (by kernel_rfl) (.tmp rfl (.nil)))) ?_
    exact runPost_err (runS_bad1 (slopeB_not hz1)) (by decide) ⟨ret_eq (by rw [slopeE_450 hz1]; rfl), hM.bel⟩

end Go.Proofs.Ytjepnlebmgkomaa
