/-
  Helpers of the credit laws.
-/
import Derived.Test.YtjepnlebmgkomaaCrB
namespace Go.Proofs.Ytjepnlebmgkomaa
open Go.RowKit
set_option linter.unusedVariables false
set_option linter.unusedSimpArgs false

theorem crRun_err {r p : Int} {l : List (Int × Int)} {free S : List Int} {e x y : Int} {f : FuncId} {args : Array Value} {w : World} (h : runS r p l free = (e, S, x, y)) (hc : Calls Try.prog f args w (RunPost w (runS r p l free))) (he : e ≠ 0 := by decide) : Calls Try.prog f args w (Ret w (.tuple #[.slice none 0 0, .agg #[.int .i64 0, .int .i64 0], .int .i64 e])) := by
  rw [h] at hc
  exact hc.mono fun _ _ hp => hp.2 he
theorem crRun_ok {r p : Int} {l : List (Int × Int)} {free S : List Int} {x y : Int} {f : FuncId} {args : Array Value} {w : World} (h : runS r p l free = (0, S, x, y)) (hc : Calls Try.prog f args w (RunPost w (runS r p l free))) :
    Calls Try.prog f args w (RetOwn w (fun v => .tuple #[v, .agg #[.int .i64 x, .int .i64 y], .int .i64 0]) 3 1 S.length (S.map (Value.int .i64))) := by
  rw [h] at hc
  exact hc.mono fun _ _ hp => hp.1 rfl
def pairsOf : List Int → List (Int × Int)
  | x :: y :: r => (x, y) :: pairsOf r
  | _ => []
def pairsTo (l : List Int) (k : Nat) : List (Int × Int) := (List.range k).map fun i => (nt l (2 * i), nt l (2 * i + 1))
theorem pairsTo_snoc (l : List Int) (k : Nat) : pairsTo l k ++ [(nt l (2 * k), nt l (2 * k + 1))] = pairsTo l (k + 1) := by simp [pairsTo, List.range_succ]
theorem take_next {l m : List Int} {k : Nat} (h1 : k < l.length) (h2 : k < m.length) (h : l.take k = m.take k) (e : nt l k = nt m k) : l.take (k + 1) = m.take (k + 1) := by
  rw [List.take_add_one, List.take_add_one, h, nt_some h1, nt_some h2, e]
theorem take_all {l m : List Int} {k : Nat} (h1 : l.length = k) (h2 : m.length = k) (h : l.take k = m.take k) : l = m := by
  rwa [List.take_of_length_le (by omega), List.take_of_length_le (by omega)] at h
theorem same_w (A : Option Addr) (l : List Int) (c : Nat) (B : Option Addr) (m : List Int) (d : Nat) (w0 : World) (hA : Ro w0 A (l.map (Value.int .i64))) (hB : Ro w0 B (m.map (Value.int .i64))) (hm : (l.length : Int) ≤ 1000000) :
    Calls Try.prog 14 #[.slice A l.length c, .slice B m.length d] w0 (Ret w0 (.bool (decide (l = m)))) := by
  refine enterK 26 Try.func14 rfl rfl rfl ?_
  intro a hF Q0 hR0 hN0
  have hM := Mem.start w0
  replace hM := hM.addOld 1 hA (Nat.le_refl _)
  replace hM := hM.addOld 2 hB (Nat.le_refl _)
  refine wp_seq_k fun K1 hK1 => ?_
  refine wp_region_lit ?_
  refine sB 1 [(4, .bool false)] hF (by kernel_rfl) fun a hF => ?_
  refine wpList_nil ?_
  refine hK1 _ _ ?_
  refine wp_seq_k fun K2 hK2 => ?_
  refine wp_seq_k fun K3 hK3 => ?_
  refine wp_region_lit ?_
  refine sB 5 [(6, .slice A l.length c), (7, .int .i64 (l.length : Int)), (8, .slice B m.length d), (9, .int .i64 (m.length : Int)), (10, .bool (!decide ((l.length : Int) = (m.length : Int))))] hF (by kernel_rfl) fun a hF => ?_
  refine wpList_nil ?_
  refine hK3 _ _ ?_
  by_cases hz1 : (l.length : Int) = (m.length : Int)
  · skip
    replace hF := hF.c hF (i := 10) (v := .bool false) rfl (nT hz1)
    refine cF hF (by kernel_rfl) (by kernel_rfl) ?_
    refine wp_skip ?_
    refine hK2 _ _ ?_
    refine wp_seq_k fun K4 hK4 => ?_
    refine wp_seq_k fun K5 hK5 => ?_
    refine wp_region_lit ?_
    refine sB 1 [(5, .int .i64 0)] hF (by kernel_rfl) fun a hF => ?_
    refine wpList_nil ?_
    refine hK5 _ _ ?_
    refine wp_block ?_
    refine wp_loop_k (G := Nat) (fun gg a w => Fr 26 [(5, some (.int .i64 (gg : Int))), (0, some (.slice A l.length c)), (1, some (.slice B m.length d))] a ∧ Mem w0.heap.size w0 [(1, some (.ro A (l.map (Value.int .i64)))), (2, some (.ro B (m.map (Value.int .i64))))] w ∧ ((gg : Int) ≤ (l.length : Int)) ∧ (l.take gg = m.take gg)) (fun gg => l.length - gg) (0) ?_ ?_
    · refine ⟨((((Fr.nil hF).c hF (i := 1) rfl rfl).c hF (i := 0) rfl rfl).c hF (i := 5) rfl (vi (show (0 : Int) = (0 : Int) from by omega))), (hM.sub ((Sub.nil.c (k := 2) rfl rfl).c (k := 1) rfl rfl)), (show (0 : Int) ≤ (l.length : Int) from by omega), (show l.take 0 = m.take 0 from by simp)⟩
    · intro gg a w hI
      intro K6 hK6
      obtain ⟨k, rfl⟩ : ∃ x, x = gg := ⟨_, rfl⟩
      try dsimp only at hI hK6
      obtain ⟨hF, hM, hz2, hz3⟩ := hI
      refine wp_seq_k fun K7 hK7 => ?_
      refine wp_seq_k fun K8 hK8 => ?_
      refine wp_region_lit ?_
      refine sB 4 [(11, .int .i64 (k : Int)), (12, .slice A l.length c), (13, .int .i64 (l.length : Int)), (14, .bool (decide ((k : Int) < (l.length : Int))))] hF (by kernel_rfl) fun a hF => ?_
      refine wpList_nil ?_
      refine hK8 _ _ ?_
      by_cases hz4 : (k : Int) < (l.length : Int)
      · skip
        replace hF := hF.c hF (i := 14) (v := .bool true) rfl (bT hz4)
        refine cT hF (by kernel_rfl) (by kernel_rfl) ?_
        refine wp_skip ?_
        refine hK7 _ _ ?_
        refine wp_seq_k fun K9 hK9 => ?_
        refine wp_block ?_
        refine wp_seq_k fun K10 hK10 => ?_
        refine rQ hM (by kernel_rfl) (by kernel_rfl) ?_
        refine eQ 17 (v0 := .slice A l.length c) (v := .slice A l.length c) hF (by kernel_rfl) (fun _ => by kernel_rfl) rfl fun a hF => ?_
        refine eQ 18 (v0 := .int .i64 (k : Int)) (v := .int .i64 (k : Int)) hF (by kernel_rfl) (fun _ => by kernel_rfl) rfl fun a hF => ?_
        refine eQ2 19 (v := .pointer (some (ea A (k)))) hF (by kernel_rfl) (yld_ix (kd := .i64) (e := 3) (len := l.length) (cap := c) (i := (k : Int)) (size := 1) (A := A) hF rfl (by kernel_rfl) (by kernel_rfl) (by kernel_rfl) (by kernel_rfl) (by kernel_rfl) (roK 1 rfl) (by omega) (by omega) (by rw [List.length_map]; omega)) fun a hF => ?_
        refine eQ2 20 (v := .int .i64 (nt l k)) hF (by kernel_rfl) (yld_ro1 (A := A) (j := k) hF rfl (by kernel_rfl) (by kernel_rfl) (roK 1 rfl) (by kernel_rfl) (nt_at (by omega))) fun a hF => ?_
        refine eQ 21 (v0 := .slice B m.length d) (v := .slice B m.length d) hF (by kernel_rfl) (fun _ => by kernel_rfl) rfl fun a hF => ?_
        refine eQ 22 (v0 := .int .i64 (k : Int)) (v := .int .i64 (k : Int)) hF (by kernel_rfl) (fun _ => by kernel_rfl) rfl fun a hF => ?_
        refine eQ2 23 (v := .pointer (some (ea B (k)))) hF (by kernel_rfl) (yld_ix (kd := .i64) (e := 3) (len := m.length) (cap := d) (i := (k : Int)) (size := 1) (A := B) hF rfl (by kernel_rfl) (by kernel_rfl) (by kernel_rfl) (by kernel_rfl) (by kernel_rfl) (roK 2 rfl) (by omega) (by omega) (by rw [List.length_map]; omega)) fun a hF => ?_
        refine eQ2 24 (v := .int .i64 (nt m k)) hF (by kernel_rfl) (yld_ro1 (A := B) (j := k) hF rfl (by kernel_rfl) (by kernel_rfl) (roK 2 rfl) (by kernel_rfl) (nt_at (by omega))) fun a hF => ?_
        refine eQ 25 (v0 := .bool (!decide (nt l k = nt m k))) (v := .bool (!decide (nt l k = nt m k))) hF (by kernel_rfl) (fun _ => by kernel_rfl) rfl fun a hF => ?_
        refine wpQuiet_nil ?_
        intro w hM
        refine hK10 _ _ ?_
        by_cases hz5 : nt l k = nt m k
        · skip
          replace hF := hF.c hF (i := 25) (v := .bool false) rfl (nT hz5)
          refine cF hF (by kernel_rfl) (by kernel_rfl) ?_
          refine wp_skip ?_
          refine hK9 _ _ ?_
          refine wp_region_lit ?_
          refine sB 1 [(15, .int .i64 (k : Int))] hF (by kernel_rfl) fun a hF => ?_
          refine wl (eP 16 (v0 := .int .i64 (IntKind.i64.wrap ((k : Int) + 1))) (v := .int .i64 ((k : Int) + 1)) hF (by kernel_rfl) (fun _ => by kernel_rfl) (wi (by omega)) fun a hF => ?_)
          refine sB 1 [(5, .int .i64 ((k : Int) + 1))] hF (by kernel_rfl) fun a hF => ?_
          refine wpList_nil ?_
          refine hK6 _ _ ⟨(k + 1), ⟨((((Fr.nil hF).c hF (i := 1) rfl rfl).c hF (i := 0) rfl rfl).c hF (i := 5) rfl (vi (show ((k : Int) + 1 : Int) = ((k + 1) : Int) from by omega))), (hM.sub ((Sub.nil.c (k := 2) rfl rfl).c (k := 1) rfl rfl)), (show ((k + 1) : Int) ≤ (l.length : Int) from by omega), (show l.take (k + 1) = m.take (k + 1) from by exact take_next (by omega) (by omega) (by assumption) (by assumption))⟩, (show l.length - (k + 1) < l.length - k from by omega)⟩
        · skip
          replace hF := hF.c hF (i := 25) (v := .bool true) rfl (nF hz5)
          refine cT hF (by kernel_rfl) (by kernel_rfl) ?_
          refine wp_seq_k fun K11 hK11 => ?_
          refine wp_region_lit ?_
          refine sB 1 [(4, .bool false)] hF (by kernel_rfl) fun a hF => ?_
          refine wpList_nil ?_
          refine hK11 _ _ ?_
          refine wp_ret ?_
          refine hR0 _ _ ?_
          refine ret_of hF hM (.tmp rfl (.nil)) ?_
          exact ⟨ret_bool (decide_eq_false (fun e => by subst e; first | omega | contradiction)).symm, hM.bel⟩
      · skip
        replace hF := hF.c hF (i := 14) (v := .bool false) rfl (bF hz4)
        refine cF hF (by kernel_rfl) (by kernel_rfl) ?_
        refine wp_exit ?_
        refine hK4 _ _ ?_
        refine wp_seq_k fun K12 hK12 => ?_
        refine wp_region_lit ?_
        refine sB 1 [(4, .bool true)] hF (by kernel_rfl) fun a hF => ?_
        refine wpList_nil ?_
        refine hK12 _ _ ?_
        refine wp_ret ?_
        refine hR0 _ _ ?_
        refine ret_of hF hM (.tmp rfl (.nil)) ?_
        exact ⟨ret_bool (decide_eq_true (take_all (k := k) (by omega) (by omega) (by assumption))).symm, hM.bel⟩
  · skip
    replace hF := hF.c hF (i := 10) (v := .bool true) rfl (nF hz1)
    refine cT hF (by kernel_rfl) (by kernel_rfl) ?_
    refine wp_seq_k fun K13 hK13 => ?_
    refine wp_region_lit ?_
    refine sB 1 [(4, .bool false)] hF (by kernel_rfl) fun a hF => ?_
    refine wpList_nil ?_
    refine hK13 _ _ ?_
    refine wp_ret ?_
    refine hR0 _ _ ?_
    refine ret_of hF hM (.tmp rfl (.nil)) ?_
    exact ⟨ret_bool (decide_eq_false (fun e => by subst e; first | omega | contradiction)).symm, hM.bel⟩

theorem same_yes (A : Option Addr) (l : List Int) (c : Nat) (B : Option Addr) (m : List Int) (d : Nat) (w : World) (hA : Ro w A (l.map (Value.int .i64))) (hB : Ro w B (m.map (Value.int .i64))) (hm : (l.length : Int) ≤ 1000000) (h : l = m) :
    Calls Try.prog 14 #[.slice A l.length c, .slice B m.length d] w (Ret w (.bool true)) := by
  have := same_w A l c B m d w hA hB hm
  rwa [decide_eq_true h] at this
theorem trace_w (A : Option Addr) (l : List Int) (c : Nat) (w0 : World) (hA : Ro w0 A (l.map (Value.int .i64))) (hm : (l.length : Int) ≤ 1000000) :
    Calls Try.prog 23 #[.slice A l.length c] w0 (RetOwn w0 (fun v => v) 57 2 (pairsTo l (l.length / 2)).length (flat2 (pairsTo l (l.length / 2)))) := by
  refine enterK 26 Try.func23 rfl rfl rfl ?_
  intro a hF Q0 hR0 hN0
  have hM := Mem.start w0
  replace hM := hM.addOld 1 hA (Nat.le_refl _)
  refine wp_seq_k fun K1 hK1 => ?_
  refine wp_region_lit ?_
  refine sB 1 [(2, .slice none 0 0)] hF (by kernel_rfl) fun a hF => ?_
  refine wpList_nil ?_
  refine hK1 _ _ ?_
  refine wp_seq_k fun K2 hK2 => ?_
  refine wp_region_lit ?_
  refine sB 1 [(3, .slice none 0 0)] hF (by kernel_rfl) fun a hF => ?_
  refine wpList_nil ?_
  refine hK2 _ _ ?_
  refine wp_seq_k fun K3 hK3 => ?_
  refine wp_seq_k fun K4 hK4 => ?_
  refine wp_region_lit ?_
  refine sB 1 [(4, .int .i64 0)] hF (by kernel_rfl) fun a hF => ?_
  refine wpList_nil ?_
  refine hK4 _ _ ?_
  refine wp_block ?_
  replace hM := hM.addNil 2 57 2
  refine wp_loop_k (G := Nat × Option Addr × Nat) (fun gg a w => Fr 26 [(3, some (.slice gg.2.1 gg.1 gg.2.2)), (4, some (.int .i64 (2 * (gg.1 : Int)))), (0, some (.slice A l.length c)), (2, some (.slice none 0 0))] a ∧ Mem w0.heap.size w0 [(1, some (.ro A (l.map (Value.int .i64)))), (2, some (.own (.slice gg.2.1 gg.1 gg.2.2) 57 2 gg.1 (flat2 (pairsTo l gg.1))))] w ∧ (2 * (gg.1 : Int) ≤ (l.length : Int))) (fun gg => l.length - gg.1) (0, none, 0) ?_ ?_
  · refine ⟨(((((Fr.nil hF).c hF (i := 2) rfl rfl).c hF (i := 0) rfl rfl).c hF (i := 4) rfl (vi (show (0 : Int) = 2 * (0 : Int) from by omega))).c hF (i := 3) rfl rfl), (hM.sub ((Sub.nil.c (k := 2) rfl rfl).c (k := 1) rfl rfl)), (show 2 * (0 : Int) ≤ (l.length : Int) from by omega)⟩
  · intro gg a w hI
    intro K5 hK5
    obtain ⟨k, G, gc⟩ := gg
    try dsimp only at hI hK5
    obtain ⟨hF, hM, hz1⟩ := hI
    refine wp_seq_k fun K6 hK6 => ?_
    refine wp_seq_k fun K7 hK7 => ?_
    refine wp_region_lit ?_
    refine sB 1 [(5, .int .i64 (2 * (k : Int)))] hF (by kernel_rfl) fun a hF => ?_
    refine wl (eP 6 (v0 := .int .i64 (IntKind.i64.wrap (2 * (k : Int) + 1))) (v := .int .i64 (2 * (k : Int) + 1)) hF (by kernel_rfl) (fun _ => by kernel_rfl) (wi (by omega)) fun a hF => ?_)
    refine sB 3 [(7, .slice A l.length c), (8, .int .i64 (l.length : Int)), (9, .bool (decide (2 * (k : Int) + 1 < (l.length : Int))))] hF (by kernel_rfl) fun a hF => ?_
    refine wpList_nil ?_
    refine hK7 _ _ ?_
    by_cases hz2 : 2 * (k : Int) + 1 < (l.length : Int)
    · skip
      replace hF := hF.c hF (i := 9) (v := .bool true) rfl (bT hz2)
      refine cT hF (by kernel_rfl) (by kernel_rfl) ?_
      refine wp_skip ?_
      refine hK6 _ _ ?_
      refine wp_seq_k fun K8 hK8 => ?_
      refine wp_block ?_
      refine rF (by kernel_rfl) (by kernel_rfl) (fun S a w => ∃ bb1 : Nat, ∃ AA2 : Option Addr, ∃ cc2 : Nat, Fr 26 [(0, some (.slice A l.length c)), (2, some (.slice none 0 0)), (3, (cond (S.getD 13 false) (some (.slice AA2 (k + 1) cc2)) (some (.slice G k gc)))), (4, some (.int .i64 (2 * (k : Int)))), (5, some (.int .i64 (2 * (k : Int)))), (6, some (.int .i64 (2 * (k : Int) + 1))), (7, some (.slice A l.length c)), (8, some (.int .i64 (l.length : Int))), (9, some (.bool true)), (12, (cond (S.getD 0 false) (some (.slice G k gc)) none)), (13, (cond (S.getD 1 false) (some (.slice A l.length c)) none)), (14, (cond (S.getD 2 false) (some (.int .i64 (2 * (k : Int)))) none)), (15, (cond (S.getD 3 false) (some (.pointer (some (ea A (2 * k))))) none)), (16, (cond (S.getD 4 false) (some (.int .i64 (nt l (2 * k)))) none)), (17, (cond (S.getD 5 false) (some (.slice A l.length c)) none)), (18, (cond (S.getD 6 false) (some (.int .i64 (2 * (k : Int)))) none)), (19, (cond (S.getD 7 false) (some (.int .i64 (2 * (k : Int) + 1))) none)), (20, (cond (S.getD 8 false) (some (.pointer (some (ea A (2 * k + 1))))) none)), (21, (cond (S.getD 9 false) (some (.int .i64 (nt l (2 * k + 1)))) none)), (22, (cond (S.getD 10 false) (some (.agg #[.int .i64 (nt l (2 * k)), .int .i64 (nt l (2 * k + 1))])) none)), (23, (cond (S.getD 11 false) (some (.slice (some ⟨bb1, 0, none⟩) 1 1)) none)), (24, (cond (S.getD 12 false) (some (.slice AA2 (k + 1) cc2)) none))] a ∧ Mem w0.heap.size w0 [(1, some (.ro A (l.map (Value.int .i64)))), (2, (cond (S.getD 12 false) (some (.own (.slice AA2 (k + 1) cc2) 57 2 (k + 1) (flat2 ((pairsTo l k) ++ [(nt l (2 * k), nt l (2 * k + 1))])))) (some (.own (.slice G k gc) 57 2 k (flat2 (pairsTo l k)))))), (3, (cond (S.getD 11 false) (some (.row bb1 57 #[.int .i64 (nt l (2 * k)), .int .i64 (nt l (2 * k + 1))])) none))] w) ?_ ?_ ?_
      · exact ⟨0, none, 0, (((((((((((((((((((((((Fr.nil hF).co hF (i := 24) (by kernel_rfl)).co hF (i := 23) (by kernel_rfl)).co hF (i := 22) (by kernel_rfl)).co hF (i := 21) (by kernel_rfl)).co hF (i := 20) (by kernel_rfl)).co hF (i := 19) (by kernel_rfl)).co hF (i := 18) (by kernel_rfl)).co hF (i := 17) (by kernel_rfl)).co hF (i := 16) (by kernel_rfl)).co hF (i := 15) (by kernel_rfl)).co hF (i := 14) (by kernel_rfl)).co hF (i := 13) (by kernel_rfl)).co hF (i := 12) (by kernel_rfl)).co hF (i := 9) (by kernel_rfl)).co hF (i := 8) (by kernel_rfl)).co hF (i := 7) (by kernel_rfl)).co hF (i := 6) (by kernel_rfl)).co hF (i := 5) (by kernel_rfl)).co hF (i := 4) (by kernel_rfl)).co hF (i := 3) (by kernel_rfl)).co hF (i := 2) (by kernel_rfl)).co hF (i := 0) (by kernel_rfl)), hM.drew.sub (((Sub.nil.co (k := 3) (by kernel_rfl)).co (k := 2) (by kernel_rfl)).co (k := 1) (by kernel_rfl))⟩
      · refine stC ?_ (stC ?_ (stC ?_ (stC ?_ (stC ?_ (stC ?_ (stC ?_ (stC ?_ (stC ?_ (stC ?_ (stC ?_ (stC ?_ (stC ?_ (stC ?_ (trivial))))))))))))))
        · intro s0 s1 s2 s3 s4 s5 s6 s7 s8 s9 s10 s11 s12 s13 hc hi hp a w hS
          obtain rfl : s0 = false := hi
          obtain rfl : s12 = false := hc.f 12 0 (by kernel_rfl) rfl
          obtain rfl : s13 = false := hc.f 13 0 (by kernel_rfl) rfl
          obtain ⟨bb1, AA2, cc2, hF, hM⟩ := hS
          refine eP 12 (v0 := .slice G k gc) (v := .slice G k gc) hF (by kernel_rfl) (fun _ => by kernel_rfl) rfl fun a hF => ?_
          exact ⟨bb1, AA2, cc2, ((hF.repl 9 (by kernel_rfl)).cast (by kernel_rfl)), (hM.cast (by kernel_rfl))⟩
        · intro s0 s1 s2 s3 s4 s5 s6 s7 s8 s9 s10 s11 s12 s13 hc hi hp a w hS
          obtain rfl : s1 = false := hi
          obtain ⟨bb1, AA2, cc2, hF, hM⟩ := hS
          refine eP 13 (v0 := .slice A l.length c) (v := .slice A l.length c) hF (by kernel_rfl) (fun _ => by kernel_rfl) rfl fun a hF => ?_
          exact ⟨bb1, AA2, cc2, ((hF.repl 10 (by kernel_rfl)).cast (by kernel_rfl)), (hM.cast (by kernel_rfl))⟩
        · intro s0 s1 s2 s3 s4 s5 s6 s7 s8 s9 s10 s11 s12 s13 hc hi hp a w hS
          obtain rfl : s2 = false := hi
          obtain ⟨bb1, AA2, cc2, hF, hM⟩ := hS
          refine eP 14 (v0 := .int .i64 (2 * (k : Int))) (v := .int .i64 (2 * (k : Int))) hF (by kernel_rfl) (fun _ => by kernel_rfl) rfl fun a hF => ?_
          exact ⟨bb1, AA2, cc2, ((hF.repl 11 (by kernel_rfl)).cast (by kernel_rfl)), (hM.cast (by kernel_rfl))⟩
        · intro s0 s1 s2 s3 s4 s5 s6 s7 s8 s9 s10 s11 s12 s13 hc hi hp a w hS
          obtain rfl : s3 = false := hi
          obtain rfl : s2 = true := hp 2 (by kernel_rfl)
          obtain rfl : s1 = true := hp 1 (by kernel_rfl)
          obtain ⟨bb1, AA2, cc2, hF, hM⟩ := hS
          refine eM 15 (v := .pointer (some (ea A (2 * k)))) hF hM (by kernel_rfl) (yld_ix (kd := .i64) (e := 3) (len := l.length) (cap := c) (i := 2 * (k : Int)) (size := 1) (A := A) hF rfl (by kernel_rfl) (by kernel_rfl) (by kernel_rfl) (by kernel_rfl) (by kernel_rfl) (roK 1 rfl) (by omega) (by omega) (by rw [List.length_map]; omega)) fun a w hF hM => ?_
          exact ⟨bb1, AA2, cc2, ((hF.repl 12 (by kernel_rfl)).cast (by kernel_rfl)), (hM.cast (by kernel_rfl))⟩
        · intro s0 s1 s2 s3 s4 s5 s6 s7 s8 s9 s10 s11 s12 s13 hc hi hp a w hS
          obtain rfl : s4 = false := hi
          obtain rfl : s3 = true := hp 3 (by kernel_rfl)
          obtain ⟨bb1, AA2, cc2, hF, hM⟩ := hS
          refine eM 16 (v := .int .i64 (nt l (2 * k))) hF hM (by kernel_rfl) (yld_ro1 (A := A) (j := 2 * k) hF rfl (by kernel_rfl) (by kernel_rfl) (roK 1 rfl) (by kernel_rfl) (nt_at (by omega))) fun a w hF hM => ?_
          exact ⟨bb1, AA2, cc2, ((hF.repl 13 (by kernel_rfl)).cast (by kernel_rfl)), (hM.cast (by kernel_rfl))⟩
        · intro s0 s1 s2 s3 s4 s5 s6 s7 s8 s9 s10 s11 s12 s13 hc hi hp a w hS
          obtain rfl : s5 = false := hi
          obtain ⟨bb1, AA2, cc2, hF, hM⟩ := hS
          refine eP 17 (v0 := .slice A l.length c) (v := .slice A l.length c) hF (by kernel_rfl) (fun _ => by kernel_rfl) rfl fun a hF => ?_
          exact ⟨bb1, AA2, cc2, ((hF.repl 14 (by kernel_rfl)).cast (by kernel_rfl)), (hM.cast (by kernel_rfl))⟩
        · intro s0 s1 s2 s3 s4 s5 s6 s7 s8 s9 s10 s11 s12 s13 hc hi hp a w hS
          obtain rfl : s6 = false := hi
          obtain ⟨bb1, AA2, cc2, hF, hM⟩ := hS
          refine eP 18 (v0 := .int .i64 (2 * (k : Int))) (v := .int .i64 (2 * (k : Int))) hF (by kernel_rfl) (fun _ => by kernel_rfl) rfl fun a hF => ?_
          exact ⟨bb1, AA2, cc2, ((hF.repl 15 (by kernel_rfl)).cast (by kernel_rfl)), (hM.cast (by kernel_rfl))⟩
        · intro s0 s1 s2 s3 s4 s5 s6 s7 s8 s9 s10 s11 s12 s13 hc hi hp a w hS
          obtain rfl : s7 = false := hi
          obtain rfl : s6 = true := hp 6 (by kernel_rfl)
          obtain ⟨bb1, AA2, cc2, hF, hM⟩ := hS
          refine eP 19 (v0 := .int .i64 (IntKind.i64.wrap (2 * (k : Int) + 1))) (v := .int .i64 (2 * (k : Int) + 1)) hF (by kernel_rfl) (fun _ => by kernel_rfl) (wi (by omega)) fun a hF => ?_
          exact ⟨bb1, AA2, cc2, ((hF.repl 16 (by kernel_rfl)).cast (by kernel_rfl)), (hM.cast (by kernel_rfl))⟩
        · intro s0 s1 s2 s3 s4 s5 s6 s7 s8 s9 s10 s11 s12 s13 hc hi hp a w hS
          obtain rfl : s8 = false := hi
          obtain rfl : s7 = true := hp 7 (by kernel_rfl)
          obtain rfl : s5 = true := hp 5 (by kernel_rfl)
          obtain ⟨bb1, AA2, cc2, hF, hM⟩ := hS
          refine eM 20 (v := .pointer (some (ea A (2 * k + 1)))) hF hM (by kernel_rfl) (yld_ix (kd := .i64) (e := 3) (len := l.length) (cap := c) (i := 2 * (k : Int) + 1) (size := 1) (A := A) hF rfl (by kernel_rfl) (by kernel_rfl) (by kernel_rfl) (by kernel_rfl) (by kernel_rfl) (roK 1 rfl) (by omega) (by omega) (by rw [List.length_map]; omega)) fun a w hF hM => ?_
          exact ⟨bb1, AA2, cc2, ((hF.repl 17 (by kernel_rfl)).cast (by kernel_rfl)), (hM.cast (by kernel_rfl))⟩
        · intro s0 s1 s2 s3 s4 s5 s6 s7 s8 s9 s10 s11 s12 s13 hc hi hp a w hS
          obtain rfl : s9 = false := hi
          obtain rfl : s8 = true := hp 8 (by kernel_rfl)
          obtain ⟨bb1, AA2, cc2, hF, hM⟩ := hS
          refine eM 21 (v := .int .i64 (nt l (2 * k + 1))) hF hM (by kernel_rfl) (yld_ro1 (A := A) (j := 2 * k + 1) hF rfl (by kernel_rfl) (by kernel_rfl) (roK 1 rfl) (by kernel_rfl) (nt_at (by omega))) fun a w hF hM => ?_
          exact ⟨bb1, AA2, cc2, ((hF.repl 18 (by kernel_rfl)).cast (by kernel_rfl)), (hM.cast (by kernel_rfl))⟩
        · intro s0 s1 s2 s3 s4 s5 s6 s7 s8 s9 s10 s11 s12 s13 hc hi hp a w hS
          obtain rfl : s10 = false := hi
          obtain rfl : s9 = true := hp 9 (by kernel_rfl)
          obtain rfl : s4 = true := hp 4 (by kernel_rfl)
          obtain ⟨bb1, AA2, cc2, hF, hM⟩ := hS
          refine eP 22 (v0 := .agg #[.int .i64 (nt l (2 * k)), .int .i64 (nt l (2 * k + 1))]) (v := .agg #[.int .i64 (nt l (2 * k)), .int .i64 (nt l (2 * k + 1))]) hF (by kernel_rfl) (fun _ => by kernel_rfl) rfl fun a hF => ?_
          exact ⟨bb1, AA2, cc2, ((hF.repl 19 (by kernel_rfl)).cast (by kernel_rfl)), (hM.cast (by kernel_rfl))⟩
        · intro s0 s1 s2 s3 s4 s5 s6 s7 s8 s9 s10 s11 s12 s13 hc hi hp a w hS
          obtain rfl : s11 = false := hi
          obtain rfl : s10 = true := hp 10 (by kernel_rfl)
          obtain ⟨bb1, AA2, cc2, hF, hM⟩ := hS
          refine eN 23 3 (t := 57) (fun b => .slice (some ⟨b, 0, none⟩) 1 1) #[.int .i64 (nt l (2 * k)), .int .i64 (nt l (2 * k + 1))] hF hM (by kernel_rfl) (fun _ => by kernel_rfl) fun bb1 a w hF hM => ?_
          exact ⟨bb1, AA2, cc2, ((hF.repl 20 (by kernel_rfl)).cast (by kernel_rfl)), ((hM.repl 2 (by kernel_rfl)).cast (by kernel_rfl))⟩
        · intro s0 s1 s2 s3 s4 s5 s6 s7 s8 s9 s10 s11 s12 s13 hc hi hp a w hS
          obtain rfl : s12 = false := hi
          obtain rfl : s11 = true := hp 11 (by kernel_rfl)
          obtain rfl : s0 = true := hp 0 (by kernel_rfl)
          obtain rfl : s13 = false := hc.f 13 12 (by kernel_rfl) rfl
          obtain ⟨bb1, AA2, cc2, hF, hM⟩ := hS
          refine sApp 24 2 (e := 57) (size := 2) (bytes := 16) (z := .agg #[.int .i64 0, .int .i64 0]) (m := 1) (c := 1) (l := k) (cap := gc) (A := G) (news := [.int .i64 (nt l (2 * k)), .int .i64 (nt l (2 * k + 1))]) (flat2 ((pairsTo l k) ++ [(nt l (2 * k), nt l (2 * k + 1))])) hF hM (by kernel_rfl) rfl (by kernel_rfl) (by kernel_rfl) (by kernel_rfl) rfl rfl rfl rfl (roR 3 rfl) (by simp [Value.oneCell']) (by omega) (by decide) (flat2_snoc' _ _ _) fun AA2 cc2 a w hF hM => ?_
          exact ⟨bb1, AA2, cc2, ((hF.repl 21 (by kernel_rfl)).cast (by kernel_rfl)), ((hM.repl 1 (by kernel_rfl)).cast (by kernel_rfl))⟩
        · intro s0 s1 s2 s3 s4 s5 s6 s7 s8 s9 s10 s11 s12 s13 hc hi hp a w hS
          obtain rfl : s13 = false := hi
          obtain rfl : s12 = true := hp 12 (by kernel_rfl)
          obtain ⟨bb1, AA2, cc2, hF, hM⟩ := hS
          refine eP 3 (v0 := .slice AA2 (k + 1) cc2) (v := .slice AA2 (k + 1) cc2) hF (by kernel_rfl) (fun _ => by kernel_rfl) rfl fun a hF => ?_
          exact ⟨bb1, AA2, cc2, ((hF.repl 2 (by kernel_rfl)).cast (by kernel_rfl)), (hM.cast (by kernel_rfl))⟩
      · intro a w hS
        obtain ⟨bb1, AA2, cc2, hF, hM⟩ := hS
        replace hF : Fr 26 [(0, some (.slice A l.length c)), (2, some (.slice none 0 0)), (3, some (.slice AA2 (k + 1) cc2)), (4, some (.int .i64 (2 * (k : Int)))), (5, some (.int .i64 (2 * (k : Int)))), (6, some (.int .i64 (2 * (k : Int) + 1))), (7, some (.slice A l.length c)), (8, some (.int .i64 (l.length : Int))), (9, some (.bool true)), (12, some (.slice G k gc)), (13, some (.slice A l.length c)), (14, some (.int .i64 (2 * (k : Int)))), (15, some (.pointer (some (ea A (2 * k))))), (16, some (.int .i64 (nt l (2 * k)))), (17, some (.slice A l.length c)), (18, some (.int .i64 (2 * (k : Int)))), (19, some (.int .i64 (2 * (k : Int) + 1))), (20, some (.pointer (some (ea A (2 * k + 1))))), (21, some (.int .i64 (nt l (2 * k + 1)))), (22, some (.agg #[.int .i64 (nt l (2 * k)), .int .i64 (nt l (2 * k + 1))])), (23, some (.slice (some ⟨bb1, 0, none⟩) 1 1)), (24, some (.slice AA2 (k + 1) cc2))] a := hF.cast (by kernel_rfl)
        replace hM : Mem w0.heap.size w0 [(1, some (.ro A (l.map (Value.int .i64)))), (2, some (.own (.slice AA2 (k + 1) cc2) 57 2 (k + 1) (flat2 ((pairsTo l k) ++ [(nt l (2 * k), nt l (2 * k + 1))])))), (3, some (.row bb1 57 #[.int .i64 (nt l (2 * k)), .int .i64 (nt l (2 * k + 1))]))] w := hM.cast (by kernel_rfl)
        refine hK8 _ _ ?_
        refine wp_region_lit ?_
        refine sB 1 [(10, .int .i64 (2 * (k : Int)))] hF (by kernel_rfl) fun a hF => ?_
        refine wl (eP 11 (v0 := .int .i64 (IntKind.i64.wrap (2 * (k : Int) + 2))) (v := .int .i64 (2 * (k : Int) + 2)) hF (by kernel_rfl) (fun _ => by kernel_rfl) (wi (by omega)) fun a hF => ?_)
        refine sB 1 [(4, .int .i64 (2 * (k : Int) + 2))] hF (by kernel_rfl) fun a hF => ?_
        refine wpList_nil ?_
        refine hK5 _ _ ⟨(k + 1, AA2, cc2), ⟨(((((Fr.nil hF).c hF (i := 2) rfl rfl).c hF (i := 0) rfl rfl).c hF (i := 4) rfl (vi (show (2 * (k : Int) + 2 : Int) = 2 * ((k + 1) : Int) from by omega))).c hF (i := 3) rfl rfl), (hM.sub ((Sub.nil.c (k := 2) rfl (congrArg (fun x => Ent.own _ _ _ _ (flat2 x)) (pairsTo_snoc l k))).c (k := 1) rfl rfl)), (show 2 * ((k + 1) : Int) ≤ (l.length : Int) from by omega)⟩, (show l.length - (k + 1) < l.length - k from by omega)⟩
    · skip
      replace hF := hF.c hF (i := 9) (v := .bool false) rfl (bF hz2)
      refine cF hF (by kernel_rfl) (by kernel_rfl) ?_
      refine wp_exit ?_
      refine hK3 _ _ ?_
      refine wp_seq_k fun K9 hK9 => ?_
      refine wp_region_lit ?_
      refine sB 2 [(25, .slice G k gc), (2, .slice G k gc)] hF (by kernel_rfl) fun a hF => ?_
      refine wpList_nil ?_
      refine hK9 _ _ ?_
      refine wp_ret ?_
      refine hR0 _ _ ?_
      refine ret_of hF hM (.tmp rfl (.nil)) ?_
      have hk : l.length / 2 = k := by omega
      have ho := hM.ok 2 _ rfl
      have hl : (pairsTo l (l.length / 2)).length = k := by rw [hk]; simp [pairsTo]
      exact ⟨_, _, by rw [hl]; rfl, by rw [hl, hk]; exact ho, hM.bel⟩

end Go.Proofs.Ytjepnlebmgkomaa
