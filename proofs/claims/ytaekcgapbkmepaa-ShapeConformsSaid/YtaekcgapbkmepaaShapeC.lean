/-
  The contract of shape.Run.
-/
import Derived.Test.YtaekcgapbkmepaaShapeRn
namespace Go.Proofs.Ytaekcgapbkmepaa
open Go.RowKit
set_option linter.unusedVariables false
set_option linter.unusedSimpArgs false

theorem fit_next {b : Int} {l : List (Int × Int)} {k : Nat} (h : ∀ j, j < k → (pr l j).2 ≤ b) (hk : (pr l k).2 ≤ b) : ∀ j, j < k + 1 → (pr l j).2 ≤ b := fun j hj => by
  by_cases e : j = k
  · subst e; exact hk
  · exact h j (by omega)
theorem shRun_err (b r : Int) (A : Option Addr) (l : List (Int × Int)) (c : Nat) (w0 : World) (hA : Ro w0 A (flat2 l)) (h : ¬ (bkE b r = 0 ∧ trE l = 0 ∧ fitB b l = true)) :
    Calls Try.prog 19 #[.agg #[.int .i64 b, .int .i64 r], .slice A l.length c] w0 (Ret w0 (.tuple #[.slice none 0 0, .int .i64 (srE b r l)])) := by
  refine enterK 53 Try.func19 rfl rfl rfl ?_
  intro a hF Q0 hR0 hN0
  have hM := Mem.start w0
  replace hM := hM.addOld 1 hA (Nat.le_refl _)
  refine wp_seq_k fun K1 hK1 => ?_
  refine wp_region_lit ?_
  refine wl (eN 2 2 (t := 23) (fun b => .pointer (some ⟨b, 0, none⟩)) #[.int .i64 b, .int .i64 r] hF hM (by kernel_rfl) (fun _ => by kernel_rfl) fun bb1 a w hF hM => ?_)
  refine wl (eN 4 3 (t := 48) (fun b => .pointer (some ⟨b, 0, none⟩)) #[.slice none 0 0] hF hM (by kernel_rfl) (fun _ => by kernel_rfl) fun bb2 a w hF hM => ?_)
  refine wl (eN 5 4 (t := 35) (fun b => .pointer (some ⟨b, 0, none⟩)) #[.int .i64 0] hF hM (by kernel_rfl) (fun _ => by kernel_rfl) fun bb3 a w hF hM => ?_)
  refine wpList_nil ?_
  refine hK1 _ _ ?_
  refine wp_seq_k fun K2 hK2 => ?_
  refine wp_region_lit ?_
  refine wl (eL 14 2 0 (v := .agg #[.int .i64 b, .int .i64 r]) hF hM (by kernel_rfl) rfl rfl (by kernel_rfl) (by kernel_rfl) fun a w hF hM => ?_)
  refine wl (eM 15 (v := .tuple #[.agg #[.int .i64 0, .int .i64 (snL b r)], .int .i64 (bkE b r)]) hF hM (by kernel_rfl) (yld_call (f := 10) (args := #[.agg #[.int .i64 b, .int .i64 r]]) hF (by kernel_rfl) (fun _ => by kernel_rfl) (fun w hM => shNew_w b r w)) fun a w hF hM => ?_)
  refine sB 3 [(13, .tuple #[.agg #[.int .i64 0, .int .i64 (snL b r)], .int .i64 (bkE b r)]), (16, .agg #[.int .i64 0, .int .i64 (snL b r)]), (17, .int .i64 (bkE b r))] hF (by kernel_rfl) fun a hF => ?_
  refine wl (eN 6 5 (t := 29) (fun b => .pointer (some ⟨b, 0, none⟩)) #[.int .i64 0, .int .i64 0] hF hM (by kernel_rfl) (fun _ => by kernel_rfl) fun bb4 a w hF hM => ?_)
  refine wl (sStore (i := 5) (off := 0) (cs' := #[.int .i64 0, .int .i64 (snL b r)]) hF hM (by kernel_rfl) rfl rfl (by kernel_rfl) (by kernel_rfl) rfl (by kernel_rfl) fun w hM => ?_)
  refine sB 1 [(7, .int .i64 (bkE b r))] hF (by kernel_rfl) fun a hF => ?_
  refine wpList_nil ?_
  refine hK2 _ _ ?_
  refine wp_seq_k fun K3 hK3 => ?_
  refine wp_seq_k fun K4 hK4 => ?_
  refine wp_region_lit ?_
  refine sB 2 [(18, .int .i64 (bkE b r)), (19, .bool (!decide (bkE b r = 0)))] hF (by kernel_rfl) fun a hF => ?_
  refine wpList_nil ?_
  refine hK4 _ _ ?_
  by_cases hz1 : bkE b r = 0
  · skip
    have hz2 := bkE_ok hz1
    replace hF := hF.c hF (i := 19) (v := .bool false) rfl (nT hz1)
    refine cF hF (by kernel_rfl) (by kernel_rfl) ?_
    refine wp_skip ?_
    refine hK3 _ _ ?_
    refine wp_seq_k fun K5 hK5 => ?_
    refine wp_seq_k fun K6 hK6 => ?_
    refine wp_region_lit ?_
    refine sB 1 [(21, .slice A l.length c)] hF (by kernel_rfl) fun a hF => ?_
    refine wl (eM 22 (v := .int .i64 (trE l)) hF hM (by kernel_rfl) (yld_call (f := 32) (args := #[.slice A l.length c]) hF (by kernel_rfl) (fun _ => by kernel_rfl) (fun w hM => checkTrace_w A l _ w (hM.ok 1 _ rfl))) fun a w hF hM => ?_)
    refine sB 1 [(8, .int .i64 (trE l))] hF (by kernel_rfl) fun a hF => ?_
    refine wpList_nil ?_
    refine hK6 _ _ ?_
    refine wp_seq_k fun K7 hK7 => ?_
    refine wp_region_lit ?_
    refine sB 2 [(23, .int .i64 (trE l)), (24, .bool (!decide (trE l = 0)))] hF (by kernel_rfl) fun a hF => ?_
    refine wpList_nil ?_
    refine hK7 _ _ ?_
    by_cases hz3 : trE l = 0
    · skip
      have hz4 := trE_ok hz3
      replace hF := hF.c hF (i := 24) (v := .bool false) rfl (nT hz3)
      refine cF hF (by kernel_rfl) (by kernel_rfl) ?_
      refine wp_skip ?_
      refine hK5 _ _ ?_
      refine wp_seq_k fun K8 hK8 => ?_
      refine wp_seq_k fun K9 hK9 => ?_
      refine wp_region_lit ?_
      refine sB 3 [(26, .slice A l.length c), (27, .int .i64 (l.length : Int)), (28, .int .i64 0)] hF (by kernel_rfl) fun a hF => ?_
      refine wpList_nil ?_
      refine hK9 _ _ ?_
      refine wp_block ?_
      refine wp_loop_k (G := Nat) (fun gg a w => Fr 53 [(28, some (.int .i64 (gg : Int))), (1, some (.slice A l.length c)), (2, some (.pointer (some ⟨bb1, 0, none⟩))), (4, some (.pointer (some ⟨bb2, 0, none⟩))), (5, some (.pointer (some ⟨bb3, 0, none⟩))), (6, some (.pointer (some ⟨bb4, 0, none⟩))), (26, some (.slice A l.length c)), (27, some (.int .i64 (l.length : Int)))] a ∧ Mem w0.heap.size w0 [(1, some (.ro A (flat2 l))), (2, some (.row bb1 23 #[.int .i64 b, .int .i64 r])), (3, some (.row bb2 48 #[.slice none 0 0])), (4, some (.row bb3 35 #[.int .i64 0])), (5, some (.row bb4 29 #[.int .i64 0, .int .i64 (snL b r)]))] w ∧ ((gg : Int) ≤ (l.length : Int)) ∧ (∀ j, j < gg → (pr l j).2 ≤ b)) (fun gg => l.length - gg) (0) ?_ ?_
      · refine ⟨(((((((((Fr.nil hF).c hF (i := 27) rfl rfl).c hF (i := 26) rfl rfl).c hF (i := 6) rfl rfl).c hF (i := 5) rfl rfl).c hF (i := 4) rfl rfl).c hF (i := 2) rfl rfl).c hF (i := 1) rfl rfl).c hF (i := 28) rfl (vi (show (0 : Int) = (0 : Int) from by omega))), (hM.sub (((((Sub.nil.c (k := 5) rfl rfl).c (k := 4) rfl rfl).c (k := 3) rfl rfl).c (k := 2) rfl rfl).c (k := 1) rfl rfl)), (show (0 : Int) ≤ (l.length : Int) from by omega), (show ∀ j, j < 0 → (pr l j).2 ≤ b from by exact fun j hj => by omega)⟩
      · intro gg a w hI
        intro K10 hK10
        obtain ⟨k, rfl⟩ : ∃ x, x = gg := ⟨_, rfl⟩
        try dsimp only at hI hK10
        obtain ⟨hF, hM, hz5, hz6⟩ := hI
        refine wp_seq_k fun K11 hK11 => ?_
        refine wp_region_lit ?_
        refine sB 1 [(29, .bool (decide ((k : Int) < (l.length : Int))))] hF (by kernel_rfl) fun a hF => ?_
        refine wpList_nil ?_
        refine hK11 _ _ ?_
        refine wp_seq_k fun K12 hK12 => ?_
        by_cases hz7 : (k : Int) < (l.length : Int)
        · skip
          replace hF := hF.c hF (i := 29) (v := .bool true) rfl (bT hz7)
          refine cT hF (by kernel_rfl) (by kernel_rfl) ?_
          refine wp_skip ?_
          refine hK12 _ _ ?_
          refine wp_seq_k fun K13 hK13 => ?_
          refine wp_block ?_
          refine wp_seq_k fun K14 hK14 => ?_
          refine wp_region_lit ?_
          refine wl (eM 30 (v := .pointer (some (ea A (k * 2)))) hF hM (by kernel_rfl) (yld_ix (kd := .i64) (e := 31) (len := l.length) (cap := c) (i := (k : Int)) (size := 2) (A := A) hF rfl (by kernel_rfl) (by kernel_rfl) (by kernel_rfl) (by kernel_rfl) (by kernel_rfl) (roK 1 rfl) (by omega) (by omega) (by rw [flat2_length]; omega)) fun a w hF hM => ?_)
          refine wl (eM 31 (v := .agg #[.int .i64 (pr l k).1, .int .i64 (pr l k).2]) hF hM (by kernel_rfl) (yld_roM (A := A) (j := k * 2) (us := [.int .i64 (pr l k).1, .int .i64 (pr l k).2]) hF rfl (by kernel_rfl) (by kernel_rfl) (roK 1 rfl) (by kernel_rfl) rfl (pr_both (k := k) (by omega) (by omega))) fun a w hF hM => ?_)
          refine wl (eN 10 6 (t := 31) (fun b => .pointer (some ⟨b, 0, none⟩)) #[.int .i64 0, .int .i64 0] hF hM (by kernel_rfl) (fun _ => by kernel_rfl) fun bb5 a w hF hM => ?_)
          refine wl (sStore (i := 6) (off := 0) (cs' := #[.int .i64 (pr l k).1, .int .i64 (pr l k).2]) hF hM (by kernel_rfl) rfl rfl (by kernel_rfl) (by kernel_rfl) rfl (by kernel_rfl) fun w hM => ?_)
          refine wpList_nil ?_
          refine hK14 _ _ ?_
          refine wp_seq_k fun K15 hK15 => ?_
          refine wp_region_lit ?_
          refine sB 1 [(32, .pointer (some ⟨bb5, 1, none⟩))] hF (by kernel_rfl) fun a hF => ?_
          refine wl (eL 33 6 1 (v := .int .i64 (pr l k).2) hF hM (by kernel_rfl) rfl rfl (by kernel_rfl) (by kernel_rfl) fun a w hF hM => ?_)
          refine sB 1 [(34, .pointer (some ⟨bb1, 0, none⟩))] hF (by kernel_rfl) fun a hF => ?_
          refine wl (eL 35 2 0 (v := .int .i64 b) hF hM (by kernel_rfl) rfl rfl (by kernel_rfl) (by kernel_rfl) fun a w hF hM => ?_)
          refine sB 1 [(36, .bool (decide (b < (pr l k).2)))] hF (by kernel_rfl) fun a hF => ?_
          refine wpList_nil ?_
          refine hK15 _ _ ?_
          by_cases hz8 : b < (pr l k).2
          · skip
            replace hF := hF.c hF (i := 36) (v := .bool true) rfl (bT hz8)
            refine cT hF (by kernel_rfl) (by kernel_rfl) ?_
            refine wp_seq_k fun K16 hK16 => ?_
            refine wp_region_lit ?_
            refine wl (sStore (i := 3) (off := 0) (cs' := #[.slice none 0 0]) hF hM (by kernel_rfl) rfl rfl (by kernel_rfl) (by kernel_rfl) rfl (by kernel_rfl) fun w hM => ?_)
            refine wl (sStore (i := 4) (off := 0) (cs' := #[.int .i64 4]) hF hM (by kernel_rfl) rfl rfl (by kernel_rfl) (by kernel_rfl) rfl (by kernel_rfl) fun w hM => ?_)
            refine wpList_nil ?_
            refine hK16 _ _ ?_
            refine wp_ret ?_
            refine hR0 _ _ ?_
            refine ret_of hF hM (.cell (i := 3) rfl rfl (v := .slice none 0 0) (by kernel_rfl) (.cell (i := 4) rfl rfl (v := .int .i64 4) (by kernel_rfl) (.nil))) ?_
            have hn4 : ¬ fitB b l = true := fun q => by have := fitB_get q (k := k) (by omega); omega
            exact ⟨ret_eq (by rw [sr_4 hz1 hz3 hn4]; rfl), hM.bel⟩
          · skip
            replace hF := hF.c hF (i := 36) (v := .bool false) rfl (bF hz8)
            refine cF hF (by kernel_rfl) (by kernel_rfl) ?_
            refine wp_skip ?_
            refine hK13 _ _ ?_
            refine wp_region_lit ?_
            refine wl (eP 37 (v0 := .int .i64 (IntKind.i64.wrap ((k : Int) + 1))) (v := .int .i64 ((k : Int) + 1)) hF (by kernel_rfl) (fun _ => by kernel_rfl) (wi (by omega)) fun a hF => ?_)
            refine sB 1 [(28, .int .i64 ((k : Int) + 1))] hF (by kernel_rfl) fun a hF => ?_
            refine wpList_nil ?_
            refine hK10 _ _ ⟨(k + 1), ⟨(((((((((Fr.nil hF).c hF (i := 27) rfl rfl).c hF (i := 26) rfl rfl).c hF (i := 6) rfl rfl).c hF (i := 5) rfl rfl).c hF (i := 4) rfl rfl).c hF (i := 2) rfl rfl).c hF (i := 1) rfl rfl).c hF (i := 28) rfl (vi (show ((k : Int) + 1 : Int) = ((k + 1) : Int) from by omega))), (hM.sub (((((Sub.nil.c (k := 5) rfl rfl).c (k := 4) rfl rfl).c (k := 3) rfl rfl).c (k := 2) rfl rfl).c (k := 1) rfl rfl)), (show ((k + 1) : Int) ≤ (l.length : Int) from by omega), (show ∀ j, j < (k + 1) → (pr l j).2 ≤ b from by exact fit_next (by assumption) (by omega))⟩, (show l.length - (k + 1) < l.length - k from by omega)⟩
        · skip
          replace hF := hF.c hF (i := 29) (v := .bool false) rfl (bF hz7)
          refine cF hF (by kernel_rfl) (by kernel_rfl) ?_
          refine wp_exit ?_
          refine hK8 _ _ ?_
          refine wp_seq_k fun K17 hK17 => ?_
          exact absurd ⟨hz1, hz3, fitB_yes (fun j hj => ‹∀ j, j < k → (pr l j).2 ≤ b› j (by omega))⟩ h
    · skip
      replace hF := hF.c hF (i := 24) (v := .bool true) rfl (nF hz3)
      refine cT hF (by kernel_rfl) (by kernel_rfl) ?_
      refine wp_seq_k fun K18 hK18 => ?_
      refine wp_region_lit ?_
      refine sB 1 [(25, .int .i64 (trE l))] hF (by kernel_rfl) fun a hF => ?_
      refine wl (sStore (i := 3) (off := 0) (cs' := #[.slice none 0 0]) hF hM (by kernel_rfl) rfl rfl (by kernel_rfl) (by kernel_rfl) rfl (by kernel_rfl) fun w hM => ?_)
      refine wl (sStore (i := 4) (off := 0) (cs' := #[.int .i64 (trE l)]) hF hM (by kernel_rfl) rfl rfl (by kernel_rfl) (by kernel_rfl) rfl (by kernel_rfl) fun w hM => ?_)
      refine wpList_nil ?_
      refine hK18 _ _ ?_
      refine wp_ret ?_
      refine hR0 _ _ ?_
      refine ret_of hF hM (.cell (i := 3) rfl rfl (v := .slice none 0 0) (by kernel_rfl) (.cell (i := 4) rfl rfl (v := .int .i64 (trE l)) (by kernel_rfl) (.nil))) ?_
      exact ⟨ret_eq (by rw [sr_131 hz1 hz3, trE_no' hz3]; rfl), hM.bel⟩
  · skip
    replace hF := hF.c hF (i := 19) (v := .bool true) rfl (nF hz1)
    refine cT hF (by kernel_rfl) (by kernel_rfl) ?_
    refine wp_seq_k fun K19 hK19 => ?_
    refine wp_region_lit ?_
    refine sB 1 [(20, .int .i64 (bkE b r))] hF (by kernel_rfl) fun a hF => ?_
    refine wl (sStore (i := 3) (off := 0) (cs' := #[.slice none 0 0]) hF hM (by kernel_rfl) rfl rfl (by kernel_rfl) (by kernel_rfl) rfl (by kernel_rfl) fun w hM => ?_)
    refine wl (sStore (i := 4) (off := 0) (cs' := #[.int .i64 (bkE b r)]) hF hM (by kernel_rfl) rfl rfl (by kernel_rfl) (by kernel_rfl) rfl (by kernel_rfl) fun w hM => ?_)
    refine wpList_nil ?_
    refine hK19 _ _ ?_
    refine wp_ret ?_
    refine hR0 _ _ ?_
    refine ret_of hF hM (.cell (i := 3) rfl rfl (v := .slice none 0 0) (by kernel_rfl) (.cell (i := 4) rfl rfl (v := .int .i64 (bkE b r)) (by kernel_rfl) (.nil))) ?_
    exact ⟨ret_eq (by rw [sr_130 hz1, bkE_no hz1]; rfl), hM.bel⟩

theorem shRun_ok (b r : Int) (A : Option Addr) (l : List (Int × Int)) (c : Nat) (w0 : World) (hA : Ro w0 A (flat2 l)) (h : srE b r l = 0) : Calls Try.prog 19 #[.agg #[.int .i64 b, .int .i64 r], .slice A l.length c] w0 (RetOwn w0 (fun v => .tuple #[v, .int .i64 0]) 3 1 l.length ((shUp b r l l.length).map (Value.int .i64))) := by
  have k := sr_ok h
  exact ((callsIn_wide (n := 3)).1 (shRun_in 3 (by decide) b r A l c k.1 k.2.1 k.2.2.1 w0 (Ro.arr2 hA))).mono fun e w hp => hp.1 k.2.2.2
theorem shRun_bad (b r : Int) (A : Option Addr) (l : List (Int × Int)) (c : Nat) (w0 : World) (hA : Ro w0 A (flat2 l)) (h : ¬ srE b r l = 0) : Calls Try.prog 19 #[.agg #[.int .i64 b, .int .i64 r], .slice A l.length c] w0 (Ret w0 (.tuple #[.slice none 0 0, .int .i64 (srE b r l)])) := by
  by_cases q : bkE b r = 0 ∧ trE l = 0 ∧ fitB b l = true
  · have ha : ¬ allT b r l l.length = true := fun z => h (sr_0 q.1 q.2.1 q.2.2 z)
    rw [sr_6 q.1 q.2.1 q.2.2 ha]
    exact ((callsIn_wide (n := 3)).1 (shRun_in 3 (by decide) b r A l c q.1 q.2.1 q.2.2 w0 (Ro.arr2 hA))).mono fun e w hp => hp.2 ha
  · exact shRun_err b r A l c w0 hA q
theorem shRun_lit {b r : Int} {l : List (Int × Int)} {S : List Int} {n : Nat} (h : shUp b r l n = S) {F : FuncId} {vs : Array Value} {w : World} (q : Calls Try.prog F vs w (RetOwn w (fun v => .tuple #[v, .int .i64 0]) 3 1 n ((shUp b r l n).map (Value.int .i64)))) : Calls Try.prog F vs w (RetOwn w (fun v => .tuple #[v, .int .i64 0]) 3 1 n (S.map (Value.int .i64))) := by
  rw [h] at q
  exact q
theorem shRun_badlit {b r e : Int} {l : List (Int × Int)} (h : srE b r l = e) {F : FuncId} {vs : Array Value} {w : World} (q : Calls Try.prog F vs w (Ret w (.tuple #[.slice none 0 0, .int .i64 (srE b r l)]))) : Calls Try.prog F vs w (Ret w (.tuple #[.slice none 0 0, .int .i64 e])) := by
  rw [h] at q
  exact q
#print axioms shRun_ok
end Go.Proofs.Ytaekcgapbkmepaa
