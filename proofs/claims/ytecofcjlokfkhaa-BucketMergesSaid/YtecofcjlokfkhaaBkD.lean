/-
  Helpers of the bucket laws.
-/
import Derived.Test.YtecofcjlokfkhaaBkW
import Derived.Test.YtecofcjlokfkhaaBkLaws
namespace Go.Proofs.Ytecofcjlokfkhaa
open Go.RowKit
set_option linter.unusedVariables false
set_option linter.unusedSimpArgs false

def pairsTo (l : List Int) (k : Nat) : List (Int × Int) := (List.range k).map fun i => (nt l (2 * i), nt l (2 * i + 1))
theorem pairsTo_snoc (l : List Int) (k : Nat) : pairsTo l k ++ [(nt l (2 * k), nt l (2 * k + 1))] = pairsTo l (k + 1) := by simp [pairsTo, List.range_succ]
theorem trace_w (A : Option Addr) (l : List Int) (c : Nat) (w0 : World) (hA : Ro w0 A (l.map (Value.int .i64))) (hm : (l.length : Int) ≤ 1000000) :
    Calls Try.prog 31 #[.slice A l.length c] w0 (RetOwn w0 (fun v => v) 30 2 (pairsTo l (l.length / 2)).length (flat2 (pairsTo l (l.length / 2)))) := by
  refine enterK 26 Try.func31 rfl rfl rfl ?_
  intro a hF Q0 hR0 hN0
  have hM := Mem.start w0
  replace hM := hM.addOld 1 hA (Nat.le_refl _)
  refine wp_seq_k fun K1 hK1 => ?_
  refine wp_region_lit ?_
  refine sB 1 [(2, .slice none 0 0)] hF (by kernel_rfl) fun a hF => ?_
  refine wpList_nil ?_
  refine hK1 _ _ ?_
  refine wp_seq_k fun K2 hK2 => ?_
  refine wp_region_lit ?_
  refine sB 1 [(3, .slice none 0 0)] hF (by kernel_rfl) fun a hF => ?_
  refine wpList_nil ?_
  refine hK2 _ _ ?_
  refine wp_seq_k fun K3 hK3 => ?_
  refine wp_seq_k fun K4 hK4 => ?_
  refine wp_region_lit ?_
  refine sB 1 [(4, .int .i64 0)] hF (by kernel_rfl) fun a hF => ?_
  refine wpList_nil ?_
  refine hK4 _ _ ?_
  refine wp_block ?_
  replace hM := hM.addNil 2 30 2
  refine wp_loop_k (G := Nat × Option Addr × Nat) (fun gg a w => Fr 26 [(3, some (.slice gg.2.1 gg.1 gg.2.2)), (4, some (.int .i64 (2 * (gg.1 : Int)))), (0, some (.slice A l.length c)), (2, some (.slice none 0 0))] a ∧ Mem w0.heap.size w0 [(1, some (.ro A (l.map (Value.int .i64)))), (2, some (.own (.slice gg.2.1 gg.1 gg.2.2) 30 2 gg.1 (flat2 (pairsTo l gg.1))))] w ∧ (2 * (gg.1 : Int) ≤ (l.length : Int))) (fun gg => l.length - gg.1) (0, none, 0) ?_ ?_
  · refine ⟨(((((Fr.nil hF).c hF (i := 2) rfl rfl).c hF (i := 0) rfl rfl).c hF (i := 4) rfl (vi (show (0 : Int) = 2 * (0 : Int) from by omega))).c hF (i := 3) rfl rfl), (hM.sub ((Sub.nil.c (k := 2) rfl rfl).c (k := 1) rfl rfl)), (show 2 * (0 : Int) ≤ (l.length : Int) from by omega)⟩
  · intro gg a w hI
    intro K5 hK5
    obtain ⟨k, G, gc⟩ := gg
    try dsimp only at hI hK5
    obtain ⟨hF, hM, hz1⟩ := hI
    refine wp_seq_k fun K6 hK6 => ?_
    refine wp_seq_k fun K7 hK7 => ?_
    refine wp_region_lit ?_
    refine sB 1 [(5, .int .i64 (2 * (k : Int)))] hF (by kernel_rfl) fun a hF => ?_
    refine wl (eP 6 (v0 := .int .i64 (IntKind.i64.wrap (2 * (k : Int) + 1))) (v := .int .i64 (2 * (k : Int) + 1)) hF (by kernel_rfl) (fun _ => by kernel_rfl) (wi (by omega)) fun a hF => ?_)
    refine sB 3 [(7, .slice A l.length c), (8, .int .i64 (l.length : Int)), (9, .bool (decide (2 * (k : Int) + 1 < (l.length : Int))))] hF (by kernel_rfl) fun a hF => ?_
    refine wpList_nil ?_
    refine hK7 _ _ ?_
    by_cases hz2 : 2 * (k : Int) + 1 < (l.length : Int)
    · skip
      replace hF := hF.c hF (i := 9) (v := .bool true) rfl (bT hz2)
      refine cT hF (by kernel_rfl) (by kernel_rfl) ?_
      refine wp_skip ?_
      refine hK6 _ _ ?_
      refine wp_seq_k fun K8 hK8 => ?_
      refine wp_block ?_
      refine rF (by kernel_rfl) (by kernel_rfl) (fun S a w => ∃ bb1 : Nat, ∃ AA2 : Option Addr, ∃ cc2 : Nat, Fr 26 [(0, some (.slice A l.length c)), (2, some (.slice none 0 0)), (3, (cond (S.getD 13 false) (some (.slice AA2 (k + 1) cc2)) (some (.slice G k gc)))), (4, some (.int .i64 (2 * (k : Int)))), (12, (cond (S.getD 0 false) (some (.slice G k gc)) none)), (13, (cond (S.getD 1 false) (some (.slice A l.length c)) none)), (14, (cond (S.getD 2 false) (some (.int .i64 (2 * (k : Int)))) none)), (15, (cond (S.getD 3 false) (some (.pointer (some (ea A (2 * k))))) none)), (16, (cond (S.getD 4 false) (some (.int .i64 (nt l (2 * k)))) none)), (17, (cond (S.getD 5 false) (some (.slice A l.length c)) none)), (18, (cond (S.getD 6 false) (some (.int .i64 (2 * (k : Int)))) none)), (19, (cond (S.getD 7 false) (some (.int .i64 (2 * (k : Int) + 1))) none)), (20, (cond (S.getD 8 false) (some (.pointer (some (ea A (2 * k + 1))))) none)), (21, (cond (S.getD 9 false) (some (.int .i64 (nt l (2 * k + 1)))) none)), (22, (cond (S.getD 10 false) (some (.agg #[.int .i64 (nt l (2 * k)), .int .i64 (nt l (2 * k + 1))])) none)), (23, (cond (S.getD 11 false) (some (.slice (some ⟨bb1, 0, none⟩) 1 1)) none)), (24, (cond (S.getD 12 false) (some (.slice AA2 (k + 1) cc2)) none))] a ∧ Mem w0.heap.size w0 [(1, some (.ro A (l.map (Value.int .i64)))), (2, (cond (S.getD 12 false) (some (.own (.slice AA2 (k + 1) cc2) 30 2 (k + 1) (flat2 ((pairsTo l k) ++ [(nt l (2 * k), nt l (2 * k + 1))])))) (some (.own (.slice G k gc) 30 2 k (flat2 (pairsTo l k)))))), (3, (cond (S.getD 11 false) (some (.row bb1 30 #[.int .i64 (nt l (2 * k)), .int .i64 (nt l (2 * k + 1))])) none))] w) ?_ ?_ ?_
      · exact ⟨0, none, 0, ((((((((((((((((((Fr.nil hF).co hF (i := 24) (by kernel_rfl)).co hF (i := 23) (by kernel_rfl)).co hF (i := 22) (by kernel_rfl)).co hF (i := 21) (by kernel_rfl)).co hF (i := 20) (by kernel_rfl)).co hF (i := 19) (by kernel_rfl)).co hF (i := 18) (by kernel_rfl)).co hF (i := 17) (by kernel_rfl)).co hF (i := 16) (by kernel_rfl)).co hF (i := 15) (by kernel_rfl)).co hF (i := 14) (by kernel_rfl)).co hF (i := 13) (by kernel_rfl)).co hF (i := 12) (by kernel_rfl)).co hF (i := 4) (by kernel_rfl)).co hF (i := 3) (by kernel_rfl)).co hF (i := 2) (by kernel_rfl)).co hF (i := 0) (by kernel_rfl)), hM.drew.sub (((Sub.nil.co (k := 3) (by kernel_rfl)).co (k := 2) (by kernel_rfl)).co (k := 1) (by kernel_rfl))⟩
      · refine stC ?_ (stC ?_ (stC ?_ (stC ?_ (stC ?_ (stC ?_ (stC ?_ (stC ?_ (stC ?_ (stC ?_ (stC ?_ (stC ?_ (stC ?_ (stC ?_ (trivial))))))))))))))
        · intro s0 s1 s2 s3 s4 s5 s6 s7 s8 s9 s10 s11 s12 s13 hc hi hp a w hS
          obtain rfl : s0 = false := hi
          obtain rfl : s12 = false := hc.f 12 0 (by kernel_rfl) rfl
          obtain rfl : s13 = false := hc.f 13 0 (by kernel_rfl) rfl
          obtain ⟨bb1, AA2, cc2, hF, hM⟩ := hS
          refine eP 12 (v0 := .slice G k gc) (v := .slice G k gc) hF (by kernel_rfl) (fun _ => by kernel_rfl) rfl fun a hF => ?_
          exact ⟨bb1, AA2, cc2, ((hF.repl 4 (by kernel_rfl)).cast (by kernel_rfl)), (hM.cast (by kernel_rfl))⟩
        · intro s0 s1 s2 s3 s4 s5 s6 s7 s8 s9 s10 s11 s12 s13 hc hi hp a w hS
          obtain rfl : s1 = false := hi
          obtain ⟨bb1, AA2, cc2, hF, hM⟩ := hS
          refine eP 13 (v0 := .slice A l.length c) (v := .slice A l.length c) hF (by kernel_rfl) (fun _ => by kernel_rfl) rfl fun a hF => ?_
          exact ⟨bb1, AA2, cc2, ((hF.repl 5 (by kernel_rfl)).cast (by kernel_rfl)), (hM.cast (by kernel_rfl))⟩
        · intro s0 s1 s2 s3 s4 s5 s6 s7 s8 s9 s10 s11 s12 s13 hc hi hp a w hS
          obtain rfl : s2 = false := hi
          obtain ⟨bb1, AA2, cc2, hF, hM⟩ := hS
          refine eP 14 (v0 := .int .i64 (2 * (k : Int))) (v := .int .i64 (2 * (k : Int))) hF (by kernel_rfl) (fun _ => by kernel_rfl) rfl fun a hF => ?_
          exact ⟨bb1, AA2, cc2, ((hF.repl 6 (by kernel_rfl)).cast (by kernel_rfl)), (hM.cast (by kernel_rfl))⟩
        · intro s0 s1 s2 s3 s4 s5 s6 s7 s8 s9 s10 s11 s12 s13 hc hi hp a w hS
          obtain rfl : s3 = false := hi
          obtain rfl : s2 = true := hp 2 (by kernel_rfl)
          obtain rfl : s1 = true := hp 1 (by kernel_rfl)
          obtain ⟨bb1, AA2, cc2, hF, hM⟩ := hS
          refine eM 15 (v := .pointer (some (ea A (2 * k)))) hF hM (by kernel_rfl) (yld_ix (kd := .i64) (e := 3) (len := l.length) (cap := c) (i := 2 * (k : Int)) (size := 1) (A := A) hF rfl (by kernel_rfl) (by kernel_rfl) (by kernel_rfl) (by kernel_rfl) (by kernel_rfl) (roK 1 rfl) (by omega) (by omega) (by rw [List.length_map]; omega)) fun a w hF hM => ?_
          exact ⟨bb1, AA2, cc2, ((hF.repl 7 (by kernel_rfl)).cast (by kernel_rfl)), (hM.cast (by kernel_rfl))⟩
        · intro s0 s1 s2 s3 s4 s5 s6 s7 s8 s9 s10 s11 s12 s13 hc hi hp a w hS
          obtain rfl : s4 = false := hi
          obtain rfl : s3 = true := hp 3 (by kernel_rfl)
          obtain ⟨bb1, AA2, cc2, hF, hM⟩ := hS
          refine eM 16 (v := .int .i64 (nt l (2 * k))) hF hM (by kernel_rfl) (yld_ro1 (A := A) (j := 2 * k) hF rfl (by kernel_rfl) (by kernel_rfl) (roK 1 rfl) (by kernel_rfl) (nt_at (by omega))) fun a w hF hM => ?_
          exact ⟨bb1, AA2, cc2, ((hF.repl 8 (by kernel_rfl)).cast (by kernel_rfl)), (hM.cast (by kernel_rfl))⟩
        · intro s0 s1 s2 s3 s4 s5 s6 s7 s8 s9 s10 s11 s12 s13 hc hi hp a w hS
          obtain rfl : s5 = false := hi
          obtain ⟨bb1, AA2, cc2, hF, hM⟩ := hS
          refine eP 17 (v0 := .slice A l.length c) (v := .slice A l.length c) hF (by kernel_rfl) (fun _ => by kernel_rfl) rfl fun a hF => ?_
          exact ⟨bb1, AA2, cc2, ((hF.repl 9 (by kernel_rfl)).cast (by kernel_rfl)), (hM.cast (by kernel_rfl))⟩
        · intro s0 s1 s2 s3 s4 s5 s6 s7 s8 s9 s10 s11 s12 s13 hc hi hp a w hS
          obtain rfl : s6 = false := hi
          obtain ⟨bb1, AA2, cc2, hF, hM⟩ := hS
          refine eP 18 (v0 := .int .i64 (2 * (k : Int))) (v := .int .i64 (2 * (k : Int))) hF (by kernel_rfl) (fun _ => by kernel_rfl) rfl fun a hF => ?_
          exact ⟨bb1, AA2, cc2, ((hF.repl 10 (by kernel_rfl)).cast (by kernel_rfl)), (hM.cast (by kernel_rfl))⟩
        · intro s0 s1 s2 s3 s4 s5 s6 s7 s8 s9 s10 s11 s12 s13 hc hi hp a w hS
          obtain rfl : s7 = false := hi
          obtain rfl : s6 = true := hp 6 (by kernel_rfl)
          obtain ⟨bb1, AA2, cc2, hF, hM⟩ := hS
          refine eP 19 (v0 := .int .i64 (IntKind.i64.wrap (2 * (k : Int) + 1))) (v := .int .i64 (2 * (k : Int) + 1)) hF (by kernel_rfl) (fun _ => by kernel_rfl) (wi (by omega)) fun a hF => ?_
          exact ⟨bb1, AA2, cc2, ((hF.repl 11 (by kernel_rfl)).cast (by kernel_rfl)), (hM.cast (by kernel_rfl))⟩
        · intro s0 s1 s2 s3 s4 s5 s6 s7 s8 s9 s10 s11 s12 s13 hc hi hp a w hS
          obtain rfl : s8 = false := hi
          obtain rfl : s7 = true := hp 7 (by kernel_rfl)
          obtain rfl : s5 = true := hp 5 (by kernel_rfl)
          obtain ⟨bb1, AA2, cc2, hF, hM⟩ := hS
          refine eM 20 (v := .pointer (some (ea A (2 * k + 1)))) hF hM (by kernel_rfl) (yld_ix (kd := .i64) (e := 3) (len := l.length) (cap := c) (i := 2 * (k : Int) + 1) (size := 1) (A := A) hF rfl (by kernel_rfl) (by kernel_rfl) (by kernel_rfl) (by kernel_rfl) (by kernel_rfl) (roK 1 rfl) (by omega) (by omega) (by rw [List.length_map]; omega)) fun a w hF hM => ?_
          exact ⟨bb1, AA2, cc2, ((hF.repl 12 (by kernel_rfl)).cast (by kernel_rfl)), (hM.cast (by kernel_rfl))⟩
        · intro s0 s1 s2 s3 s4 s5 s6 s7 s8 s9 s10 s11 s12 s13 hc hi hp a w hS
          obtain rfl : s9 = false := hi
          obtain rfl : s8 = true := hp 8 (by kernel_rfl)
          obtain ⟨bb1, AA2, cc2, hF, hM⟩ := hS
          refine eM 21 (v := .int .i64 (nt l (2 * k + 1))) hF hM (by kernel_rfl) (yld_ro1 (A := A) (j := 2 * k + 1) hF rfl (by kernel_rfl) (by kernel_rfl) (roK 1 rfl) (by kernel_rfl) (nt_at (by omega))) fun a w hF hM => ?_
          exact ⟨bb1, AA2, cc2, ((hF.repl 13 (by kernel_rfl)).cast (by kernel_rfl)), (hM.cast (by kernel_rfl))⟩
        · intro s0 s1 s2 s3 s4 s5 s6 s7 s8 s9 s10 s11 s12 s13 hc hi hp a w hS
          obtain rfl : s10 = false := hi
          obtain rfl : s9 = true := hp 9 (by kernel_rfl)
          obtain rfl : s4 = true := hp 4 (by kernel_rfl)
          obtain ⟨bb1, AA2, cc2, hF, hM⟩ := hS
          refine eP 22 (v0 := .agg #[.int .i64 (nt l (2 * k)), .int .i64 (nt l (2 * k + 1))]) (v := .agg #[.int .i64 (nt l (2 * k)), .int .i64 (nt l (2 * k + 1))]) hF (by kernel_rfl) (fun _ => by kernel_rfl) rfl fun a hF => ?_
          exact ⟨bb1, AA2, cc2, ((hF.repl 14 (by kernel_rfl)).cast (by kernel_rfl)), (hM.cast (by kernel_rfl))⟩
        · intro s0 s1 s2 s3 s4 s5 s6 s7 s8 s9 s10 s11 s12 s13 hc hi hp a w hS
          obtain rfl : s11 = false := hi
          obtain rfl : s10 = true := hp 10 (by kernel_rfl)
          obtain ⟨bb1, AA2, cc2, hF, hM⟩ := hS
          refine eN 23 3 (t := 30) (fun b => .slice (some ⟨b, 0, none⟩) 1 1) #[.int .i64 (nt l (2 * k)), .int .i64 (nt l (2 * k + 1))] hF hM (by kernel_rfl) (fun _ => by kernel_rfl) fun bb1 a w hF hM => ?_
          exact ⟨bb1, AA2, cc2, ((hF.repl 15 (by kernel_rfl)).cast (by kernel_rfl)), ((hM.repl 2 (by kernel_rfl)).cast (by kernel_rfl))⟩
        · intro s0 s1 s2 s3 s4 s5 s6 s7 s8 s9 s10 s11 s12 s13 hc hi hp a w hS
          obtain rfl : s12 = false := hi
          obtain rfl : s11 = true := hp 11 (by kernel_rfl)
          obtain rfl : s0 = true := hp 0 (by kernel_rfl)
          obtain rfl : s13 = false := hc.f 13 12 (by kernel_rfl) rfl
          obtain ⟨bb1, AA2, cc2, hF, hM⟩ := hS
          refine sApp 24 2 (e := 30) (size := 2) (bytes := 16) (z := .agg #[.int .i64 0, .int .i64 0]) (m := 1) (c := 1) (l := k) (cap := gc) (A := G) (news := [.int .i64 (nt l (2 * k)), .int .i64 (nt l (2 * k + 1))]) (flat2 ((pairsTo l k) ++ [(nt l (2 * k), nt l (2 * k + 1))])) hF hM (by kernel_rfl) rfl (by kernel_rfl) (by kernel_rfl) (by kernel_rfl) rfl rfl rfl rfl (roR 3 rfl) (by simp [Value.oneCell']) (by omega) (by decide) (flat2_snoc' _ _ _) fun AA2 cc2 a w hF hM => ?_
          exact ⟨bb1, AA2, cc2, ((hF.repl 16 (by kernel_rfl)).cast (by kernel_rfl)), ((hM.repl 1 (by kernel_rfl)).cast (by kernel_rfl))⟩
        · intro s0 s1 s2 s3 s4 s5 s6 s7 s8 s9 s10 s11 s12 s13 hc hi hp a w hS
          obtain rfl : s13 = false := hi
          obtain rfl : s12 = true := hp 12 (by kernel_rfl)
          obtain ⟨bb1, AA2, cc2, hF, hM⟩ := hS
          refine eP 3 (v0 := .slice AA2 (k + 1) cc2) (v := .slice AA2 (k + 1) cc2) hF (by kernel_rfl) (fun _ => by kernel_rfl) rfl fun a hF => ?_
          exact ⟨bb1, AA2, cc2, ((hF.repl 2 (by kernel_rfl)).cast (by kernel_rfl)), (hM.cast (by kernel_rfl))⟩
      · intro a w hS
        obtain ⟨bb1, AA2, cc2, hF, hM⟩ := hS
        replace hF : Fr 26 [(0, some (.slice A l.length c)), (2, some (.slice none 0 0)), (3, some (.slice AA2 (k + 1) cc2)), (4, some (.int .i64 (2 * (k : Int)))), (12, some (.slice G k gc)), (13, some (.slice A l.length c)), (14, some (.int .i64 (2 * (k : Int)))), (15, some (.pointer (some (ea A (2 * k))))), (16, some (.int .i64 (nt l (2 * k)))), (17, some (.slice A l.length c)), (18, some (.int .i64 (2 * (k : Int)))), (19, some (.int .i64 (2 * (k : Int) + 1))), (20, some (.pointer (some (ea A (2 * k + 1))))), (21, some (.int .i64 (nt l (2 * k + 1)))), (22, some (.agg #[.int .i64 (nt l (2 * k)), .int .i64 (nt l (2 * k + 1))])), (23, some (.slice (some ⟨bb1, 0, none⟩) 1 1)), (24, some (.slice AA2 (k + 1) cc2))] a := hF.cast (by kernel_rfl)
        replace hM : Mem w0.heap.size w0 [(1, some (.ro A (l.map (Value.int .i64)))), (2, some (.own (.slice AA2 (k + 1) cc2) 30 2 (k + 1) (flat2 ((pairsTo l k) ++ [(nt l (2 * k), nt l (2 * k + 1))])))), (3, some (.row bb1 30 #[.int .i64 (nt l (2 * k)), .int .i64 (nt l (2 * k + 1))]))] w := hM.cast (by kernel_rfl)
        refine hK8 _ _ ?_
        refine wp_region_lit ?_
        refine sB 1 [(10, .int .i64 (2 * (k : Int)))] hF (by kernel_rfl) fun a hF => ?_
        refine wl (eP 11 (v0 := .int .i64 (IntKind.i64.wrap (2 * (k : Int) + 2))) (v := .int .i64 (2 * (k : Int) + 2)) hF (by kernel_rfl) (fun _ => by kernel_rfl) (wi (by omega)) fun a hF => ?_)
        refine sB 1 [(4, .int .i64 (2 * (k : Int) + 2))] hF (by kernel_rfl) fun a hF => ?_
        refine wpList_nil ?_
        refine hK5 _ _ ⟨(k + 1, AA2, cc2), ⟨(((((Fr.nil hF).c hF (i := 2) rfl rfl).c hF (i := 0) rfl rfl).c hF (i := 4) rfl (vi (show (2 * (k : Int) + 2 : Int) = 2 * ((k + 1) : Int) from by omega))).c hF (i := 3) rfl rfl), (hM.sub ((Sub.nil.c (k := 2) rfl (congrArg (fun x => Ent.own _ _ _ _ (flat2 x)) (pairsTo_snoc l k))).c (k := 1) rfl rfl)), (show 2 * ((k + 1) : Int) ≤ (l.length : Int) from by omega)⟩, (show l.length - (k + 1) < l.length - k from by omega)⟩
    · skip
      replace hF := hF.c hF (i := 9) (v := .bool false) rfl (bF hz2)
      refine cF hF (by kernel_rfl) (by kernel_rfl) ?_
      refine wp_exit ?_
      refine hK3 _ _ ?_
      refine wp_seq_k fun K9 hK9 => ?_
      refine wp_region_lit ?_
      refine sB 2 [(25, .slice G k gc), (2, .slice G k gc)] hF (by kernel_rfl) fun a hF => ?_
      refine wpList_nil ?_
      refine hK9 _ _ ?_
      refine wp_ret ?_
      refine hR0 _ _ ?_
      refine ret_of hF hM (.tmp rfl (.nil)) ?_
      have hk : l.length / 2 = k := by omega
      have ho := hM.ok 2 _ rfl
      have hl : (pairsTo l (l.length / 2)).length = k := by rw [hk]; simp [pairsTo]
      exact ⟨_, _, by rw [hl]; rfl, by rw [hl, hk]; exact ho, hM.bel⟩

theorem cf_ck {b r : Int} {l : List (Int × Int)} (h : cfB b r l = true) : ckE b r l = 0 := (cf_iff.1 h).1
theorem fits3_w (b r : Int) (A : Option Addr) (l : List (Int × Int)) (c : Nat) (w0 : World) (hA : Ro w0 A (flat2 l)) :
    Calls Try.prog 30 #[.agg #[.int .i64 b, .int .i64 r], .slice A l.length c] w0 (Ret w0 (.bool (cfB b r l))) := by
  refine enterK 18 Try.func30 rfl rfl rfl ?_
  intro a hF Q0 hR0 hN0
  have hM := Mem.start w0
  replace hM := hM.addOld 1 hA (Nat.le_refl _)
  refine wp_seq_k fun K1 hK1 => ?_
  refine wp_region_lit ?_
  refine wl (eN 2 2 (t := 23) (fun b => .pointer (some ⟨b, 0, none⟩)) #[.int .i64 b, .int .i64 r] hF hM (by kernel_rfl) (fun _ => by kernel_rfl) fun bb1 a w hF hM => ?_)
  refine sB 1 [(4, .bool false)] hF (by kernel_rfl) fun a hF => ?_
  refine wpList_nil ?_
  refine hK1 _ _ ?_
  refine wp_seq_k fun K2 hK2 => ?_
  refine wp_region_lit ?_
  refine wl (eL 8 2 0 (v := .agg #[.int .i64 b, .int .i64 r]) hF hM (by kernel_rfl) rfl rfl (by kernel_rfl) (by kernel_rfl) fun a w hF hM => ?_)
  refine sB 1 [(9, .slice A l.length c)] hF (by kernel_rfl) fun a hF => ?_
  refine wl (eM 10 (v := .tuple #[.bool (cfB b r l), .int .i64 (ckE b r l)]) hF hM (by kernel_rfl) (yld_call (f := 23) (args := #[.agg #[.int .i64 b, .int .i64 r], .slice A l.length c]) hF (by kernel_rfl) (fun _ => by kernel_rfl) (fun w hM => conforms_w b r A l _ w (hM.ok 1 _ rfl))) fun a w hF hM => ?_)
  refine sB 5 [(7, .tuple #[.bool (cfB b r l), .int .i64 (ckE b r l)]), (11, .bool (cfB b r l)), (12, .int .i64 (ckE b r l)), (5, .bool (cfB b r l)), (6, .int .i64 (ckE b r l))] hF (by kernel_rfl) fun a hF => ?_
  refine wpList_nil ?_
  refine hK2 _ _ ?_
  refine wp_seq_k fun K3 hK3 => ?_
  cases hz1 : (cfB b r l)
  · skip
    replace hF := hF.c hF (i := 5) (v := .bool false) rfl (congrArg Value.bool hz1)
    replace hF := hF.c hF (i := 11) (v := .bool false) rfl (congrArg Value.bool hz1)
    refine wp_region_lit ?_
    refine sB 6 [(13, .bool false), (14, .bool false), (15, undef), (16, undef), (17, .bool false), (4, .bool false)] hF (by kernel_rfl) fun a hF => ?_
    refine wpList_nil ?_
    refine hK3 _ _ ?_
    refine wp_ret ?_
    refine hR0 _ _ ?_
    refine ret_of hF hM (.tmp rfl (.nil)) ?_
    exact ⟨ret_bool ((hz1).symm), hM.bel⟩
  · skip
    replace hF := hF.c hF (i := 5) (v := .bool true) rfl (congrArg Value.bool hz1)
    replace hF := hF.c hF (i := 11) (v := .bool true) rfl (congrArg Value.bool hz1)
    refine wp_region_lit ?_
    refine sB 6 [(13, .bool true), (14, .bool true), (15, .int .i64 (ckE b r l)), (16, .bool (decide (ckE b r l = 0))), (17, .bool (decide (ckE b r l = 0))), (4, .bool (decide (ckE b r l = 0)))] hF (by kernel_rfl) fun a hF => ?_
    refine wpList_nil ?_
    refine hK3 _ _ ?_
    refine wp_ret ?_
    refine hR0 _ _ ?_
    refine ret_of hF hM (.tmp rfl (.nil)) ?_
    exact ⟨ret_bool (by rw [hz1, cf_ck hz1]; rfl), hM.bel⟩

def fiB (b r : Int) (l : List (Int × Int)) (n : Int) : Bool := decide (fiV b r l = n ∧ ckE b r l = 0)
theorem first3_w (b r : Int) (A : Option Addr) (l : List (Int × Int)) (c : Nat) (n : Int) (w0 : World) (hA : Ro w0 A (flat2 l)) :
    Calls Try.prog 29 #[.agg #[.int .i64 b, .int .i64 r], .slice A l.length c, .int .i64 n] w0 (Ret w0 (.bool (fiB b r l n))) := by
  refine enterK 22 Try.func29 rfl rfl rfl ?_
  intro a hF Q0 hR0 hN0
  have hM := Mem.start w0
  replace hM := hM.addOld 1 hA (Nat.le_refl _)
  refine wp_seq_k fun K1 hK1 => ?_
  refine wp_region_lit ?_
  refine wl (eN 3 2 (t := 23) (fun b => .pointer (some ⟨b, 0, none⟩)) #[.int .i64 b, .int .i64 r] hF hM (by kernel_rfl) (fun _ => by kernel_rfl) fun bb1 a w hF hM => ?_)
  refine sB 1 [(6, .bool false)] hF (by kernel_rfl) fun a hF => ?_
  refine wpList_nil ?_
  refine hK1 _ _ ?_
  refine wp_seq_k fun K2 hK2 => ?_
  refine wp_region_lit ?_
  refine wl (eL 10 2 0 (v := .agg #[.int .i64 b, .int .i64 r]) hF hM (by kernel_rfl) rfl rfl (by kernel_rfl) (by kernel_rfl) fun a w hF hM => ?_)
  refine sB 1 [(11, .slice A l.length c)] hF (by kernel_rfl) fun a hF => ?_
  refine wl (eM 12 (v := .tuple #[.int .i64 (fiV b r l), .int .i64 (ckE b r l)]) hF hM (by kernel_rfl) (yld_call (f := 25) (args := #[.agg #[.int .i64 b, .int .i64 r], .slice A l.length c]) hF (by kernel_rfl) (fun _ => by kernel_rfl) (fun w hM => bFirst_w b r A l _ w (hM.ok 1 _ rfl))) fun a w hF hM => ?_)
  refine sB 5 [(9, .tuple #[.int .i64 (fiV b r l), .int .i64 (ckE b r l)]), (13, .int .i64 (fiV b r l)), (14, .int .i64 (ckE b r l)), (7, .int .i64 (fiV b r l)), (8, .int .i64 (ckE b r l))] hF (by kernel_rfl) fun a hF => ?_
  refine wpList_nil ?_
  refine hK2 _ _ ?_
  refine wp_seq_k fun K3 hK3 => ?_
  by_cases hz1 : fiV b r l = n
  · skip
    refine wp_region_lit ?_
    refine sB 2 [(15, .int .i64 (fiV b r l)), (16, .int .i64 n)] hF (by kernel_rfl) fun a hF => ?_
    refine wl (eP 17 (v0 := .bool (decide (fiV b r l = n))) (v := .bool true) hF (by kernel_rfl) (fun _ => by kernel_rfl) (bT hz1) fun a hF => ?_)
    refine sB 5 [(18, .bool true), (19, .int .i64 (ckE b r l)), (20, .bool (decide (ckE b r l = 0))), (21, .bool (decide (ckE b r l = 0))), (6, .bool (decide (ckE b r l = 0)))] hF (by kernel_rfl) fun a hF => ?_
    refine wpList_nil ?_
    refine hK3 _ _ ?_
    refine wp_ret ?_
    refine hR0 _ _ ?_
    refine ret_of hF hM (.tmp rfl (.nil)) ?_
    exact ⟨ret_bool (by unfold fiB; simp_all), hM.bel⟩
  · skip
    refine wp_region_lit ?_
    refine sB 2 [(15, .int .i64 (fiV b r l)), (16, .int .i64 n)] hF (by kernel_rfl) fun a hF => ?_
    refine wl (eP 17 (v0 := .bool (decide (fiV b r l = n))) (v := .bool false) hF (by kernel_rfl) (fun _ => by kernel_rfl) (bF hz1) fun a hF => ?_)
    refine sB 5 [(18, .bool false), (19, undef), (20, undef), (21, .bool false), (6, .bool false)] hF (by kernel_rfl) fun a hF => ?_
    refine wpList_nil ?_
    refine hK3 _ _ ?_
    refine wp_ret ?_
    refine hR0 _ _ ?_
    refine ret_of hF hM (.tmp rfl (.nil)) ?_
    exact ⟨ret_bool (by unfold fiB; simp_all), hM.bel⟩

set_option maxRecDepth 100000 in
set_option maxHeartbeats 4000000 in
theorem works_w (w0 : World) :
    Calls Try.prog 21 #[] w0 (Ret w0 (.bool true)) := by
  refine enterK 135 Try.func21 rfl rfl rfl ?_
  intro a hF Q0 hR0 hN0
  have hM := Mem.start w0
  refine wp_seq_k fun K1 hK1 => ?_
  refine wp_region_lit ?_
  refine sB 1 [(0, .bool false)] hF (by kernel_rfl) fun a hF => ?_
  refine wpList_nil ?_
  refine hK1 _ _ ?_
  refine wp_seq_k fun K2 hK2 => ?_
  refine wp_region_lit ?_
  refine sB 1 [(17, .agg #[.int .i64 1000, .int .i64 131072])] hF (by kernel_rfl) fun a hF => ?_
  refine wl (eN 1 1 (t := 23) (fun b => .pointer (some ⟨b, 0, none⟩)) #[.int .i64 0, .int .i64 0] hF hM (by kernel_rfl) (fun _ => by kernel_rfl) fun bb1 a w hF hM => ?_)
  refine wl (sStore (i := 1) (off := 0) (cs' := #[.int .i64 1000, .int .i64 131072]) hF hM (by kernel_rfl) rfl rfl (by kernel_rfl) (by kernel_rfl) rfl (by kernel_rfl) fun w hM => ?_)
  refine wpList_nil ?_
  refine hK2 _ _ ?_
  refine wp_seq_k fun K3 hK3 => ?_
  refine rF (by kernel_rfl) (by kernel_rfl) (fun S a w => ∃ bb2 : Nat, ∃ AA3 : Option Addr, ∃ cc3 : Nat, ∃ bb4 : Nat, ∃ AA5 : Option Addr, ∃ cc5 : Nat, ∃ bb6 : Nat, ∃ AA7 : Option Addr, ∃ cc7 : Nat, Fr 135 [(0, some (.bool false)), (1, some (.pointer (some ⟨bb1, 0, none⟩))), (2, (cond (S.getD 17 false) (some (.bool true)) none)), (18, (cond (S.getD 0 false) (some (.agg #[.int .i64 1000, .int .i64 131072])) none)), (19, (cond (S.getD 1 false) (some (.slice (some ⟨bb2, 0, none⟩) 4 4)) none)), (20, (cond (S.getD 2 false) (some (.slice AA3 2 cc3)) none)), (21, (cond (S.getD 3 false) (some (.bool true)) none)), (22, (cond (S.getD 4 false) (some (.bool true)) none)), (23, (cond (S.getD 5 false) (some (.agg #[.int .i64 1000, .int .i64 131072])) none)), (24, (cond (S.getD 6 false) (some (.slice (some ⟨bb4, 0, none⟩) 4 4)) none)), (25, (cond (S.getD 7 false) (some (.slice AA5 2 cc5)) none)), (26, (cond (S.getD 8 false) (some (.bool false)) none)), (27, (cond (S.getD 9 false) (some (.bool true)) none)), (28, (cond (S.getD 10 false) (some (.bool true)) none)), (29, (cond (S.getD 11 false) (some (.bool true)) none)), (30, (cond (S.getD 12 false) (some (.agg #[.int .i64 1000, .int .i64 131072])) none)), (31, (cond (S.getD 13 false) (some (.slice (some ⟨bb6, 0, none⟩) 4 4)) none)), (32, (cond (S.getD 14 false) (some (.slice AA7 2 cc7)) none)), (33, (cond (S.getD 15 false) (some (.bool true)) none)), (34, (cond (S.getD 16 false) (some (.bool true)) none))] a ∧ Mem w0.heap.size w0 [(1, some (.row bb1 23 #[.int .i64 1000, .int .i64 131072])), (2, (cond (S.getD 1 false) (some (.row bb2 3 #[.int .i64 0, .int .i64 600, .int .i64 0, .int .i64 400])) none)), (3, (cond (S.getD 2 false) (some (.own (.slice AA3 2 cc3) 30 2 2 (flat2 ([(0, 600), (0, 400)])))) none)), (4, (cond (S.getD 6 false) (some (.row bb4 3 #[.int .i64 0, .int .i64 600, .int .i64 0, .int .i64 401])) none)), (5, (cond (S.getD 7 false) (some (.own (.slice AA5 2 cc5) 30 2 2 (flat2 ([(0, 600), (0, 401)])))) none)), (6, (cond (S.getD 13 false) (some (.row bb6 3 #[.int .i64 0, .int .i64 1000, .int .i64 800, .int .i64 100])) none)), (7, (cond (S.getD 14 false) (some (.own (.slice AA7 2 cc7) 30 2 2 (flat2 ([(0, 1000), (800, 100)])))) none))] w) ?_ ?_ ?_
  · exact ⟨0, none, 0, 0, none, 0, 0, none, 0, (((((((((((((((((((((Fr.nil hF).co hF (i := 34) (by kernel_rfl)).co hF (i := 33) (by kernel_rfl)).co hF (i := 32) (by kernel_rfl)).co hF (i := 31) (by kernel_rfl)).co hF (i := 30) (by kernel_rfl)).co hF (i := 29) (by kernel_rfl)).co hF (i := 28) (by kernel_rfl)).co hF (i := 27) (by kernel_rfl)).co hF (i := 26) (by kernel_rfl)).co hF (i := 25) (by kernel_rfl)).co hF (i := 24) (by kernel_rfl)).co hF (i := 23) (by kernel_rfl)).co hF (i := 22) (by kernel_rfl)).co hF (i := 21) (by kernel_rfl)).co hF (i := 20) (by kernel_rfl)).co hF (i := 19) (by kernel_rfl)).co hF (i := 18) (by kernel_rfl)).co hF (i := 2) (by kernel_rfl)).co hF (i := 1) (by kernel_rfl)).co hF (i := 0) (by kernel_rfl)), hM.drew.sub (((((((Sub.nil.co (k := 7) (by kernel_rfl)).co (k := 6) (by kernel_rfl)).co (k := 5) (by kernel_rfl)).co (k := 4) (by kernel_rfl)).co (k := 3) (by kernel_rfl)).co (k := 2) (by kernel_rfl)).co (k := 1) (by kernel_rfl))⟩
  · refine stC ?_ (stC ?_ (stC ?_ (stC ?_ (stC ?_ (stC ?_ (stC ?_ (stC ?_ (stC ?_ (stC ?_ (stC ?_ (stC ?_ (stC ?_ (stC ?_ (stC ?_ (stC ?_ (stC ?_ (stC ?_ (trivial))))))))))))))))))
    · intro s0 s1 s2 s3 s4 s5 s6 s7 s8 s9 s10 s11 s12 s13 s14 s15 s16 s17 hc hi hp a w hS
      obtain rfl : s0 = false := hi
      obtain ⟨bb2, AA3, cc3, bb4, AA5, cc5, bb6, AA7, cc7, hF, hM⟩ := hS
      refine eL 18 1 0 (v := .agg #[.int .i64 1000, .int .i64 131072]) hF hM (by kernel_rfl) rfl rfl (by kernel_rfl) (by kernel_rfl) fun a w hF hM => ?_
      exact ⟨bb2, AA3, cc3, bb4, AA5, cc5, bb6, AA7, cc7, ((hF.repl 3 (by kernel_rfl)).cast (by kernel_rfl)), (hM.cast (by kernel_rfl))⟩
    · intro s0 s1 s2 s3 s4 s5 s6 s7 s8 s9 s10 s11 s12 s13 s14 s15 s16 s17 hc hi hp a w hS
      obtain rfl : s1 = false := hi
      obtain ⟨bb2, AA3, cc3, bb4, AA5, cc5, bb6, AA7, cc7, hF, hM⟩ := hS
      refine eN 19 2 (t := 3) (fun b => .slice (some ⟨b, 0, none⟩) 4 4) #[.int .i64 0, .int .i64 600, .int .i64 0, .int .i64 400] hF hM (by kernel_rfl) (fun _ => by kernel_rfl) fun bb2 a w hF hM => ?_
      exact ⟨bb2, AA3, cc3, bb4, AA5, cc5, bb6, AA7, cc7, ((hF.repl 4 (by kernel_rfl)).cast (by kernel_rfl)), ((hM.repl 1 (by kernel_rfl)).cast (by kernel_rfl))⟩
    · intro s0 s1 s2 s3 s4 s5 s6 s7 s8 s9 s10 s11 s12 s13 s14 s15 s16 s17 hc hi hp a w hS
      obtain rfl : s2 = false := hi
      obtain rfl : s1 = true := hp 1 (by kernel_rfl)
      obtain ⟨bb2, AA3, cc3, bb4, AA5, cc5, bb6, AA7, cc7, hF, hM⟩ := hS
      refine sOwn 3 (f := 31) (args := #[.slice (some ⟨bb2, 0, none⟩) 4 4]) (mk := fun v => v) (e := 30) (size := 2) (m := 2) (xs := (flat2 ([(0, 600), (0, 400)]))) hF hM (by kernel_rfl) rfl (by decide) (by kernel_rfl) (fun _ => by kernel_rfl) (trace_w (some ⟨bb2, 0, none⟩) [0, 600, 0, 400] 4 w (hM.roRow (k := 2) rfl) (by decide)) fun AA3 cc3 a w hF hM => ?_
      exact ⟨bb2, AA3, cc3, bb4, AA5, cc5, bb6, AA7, cc7, ((hF.repl 5 (by kernel_rfl)).cast (by kernel_rfl)), ((hM.repl 2 (by kernel_rfl)).cast (by kernel_rfl))⟩
    · intro s0 s1 s2 s3 s4 s5 s6 s7 s8 s9 s10 s11 s12 s13 s14 s15 s16 s17 hc hi hp a w hS
      obtain rfl : s3 = false := hi
      obtain rfl : s2 = true := hp 2 (by kernel_rfl)
      obtain rfl : s0 = true := hp 0 (by kernel_rfl)
      obtain ⟨bb2, AA3, cc3, bb4, AA5, cc5, bb6, AA7, cc7, hF, hM⟩ := hS
      refine eM 21 (v := .bool true) hF hM (by kernel_rfl) (Yld.to (yld_call (f := 30) (args := #[.agg #[.int .i64 1000, .int .i64 131072], .slice AA3 2 cc3]) hF (by kernel_rfl) (fun _ => by kernel_rfl) (fun w hM => fits3_w 1000 131072 AA3 ([(0, 600), (0, 400)]) _ w (ro_of_own (hM.ok 3 _ rfl)))) (by kernel_rfl)) fun a w hF hM => ?_
      exact ⟨bb2, AA3, cc3, bb4, AA5, cc5, bb6, AA7, cc7, ((hF.repl 6 (by kernel_rfl)).cast (by kernel_rfl)), (hM.cast (by kernel_rfl))⟩
    · intro s0 s1 s2 s3 s4 s5 s6 s7 s8 s9 s10 s11 s12 s13 s14 s15 s16 s17 hc hi hp a w hS
      obtain rfl : s4 = false := hi
      obtain rfl : s3 = true := hp 3 (by kernel_rfl)
      obtain ⟨bb2, AA3, cc3, bb4, AA5, cc5, bb6, AA7, cc7, hF, hM⟩ := hS
      refine eP 22 (v0 := .bool true) (v := .bool true) hF (by kernel_rfl) (fun _ => by kernel_rfl) rfl fun a hF => ?_
      exact ⟨bb2, AA3, cc3, bb4, AA5, cc5, bb6, AA7, cc7, ((hF.repl 7 (by kernel_rfl)).cast (by kernel_rfl)), (hM.cast (by kernel_rfl))⟩
    · intro s0 s1 s2 s3 s4 s5 s6 s7 s8 s9 s10 s11 s12 s13 s14 s15 s16 s17 hc hi hp a w hS
      obtain rfl : s5 = false := hi
      obtain rfl : s4 = true := hp 4 (by kernel_rfl)
      obtain ⟨bb2, AA3, cc3, bb4, AA5, cc5, bb6, AA7, cc7, hF, hM⟩ := hS
      refine eL 23 1 0 (v := .agg #[.int .i64 1000, .int .i64 131072]) hF hM (by kernel_rfl) rfl rfl (by kernel_rfl) (by kernel_rfl) fun a w hF hM => ?_
      exact ⟨bb2, AA3, cc3, bb4, AA5, cc5, bb6, AA7, cc7, ((hF.repl 8 (by kernel_rfl)).cast (by kernel_rfl)), (hM.cast (by kernel_rfl))⟩
    · intro s0 s1 s2 s3 s4 s5 s6 s7 s8 s9 s10 s11 s12 s13 s14 s15 s16 s17 hc hi hp a w hS
      obtain rfl : s6 = false := hi
      obtain rfl : s4 = true := hp 4 (by kernel_rfl)
      obtain ⟨bb2, AA3, cc3, bb4, AA5, cc5, bb6, AA7, cc7, hF, hM⟩ := hS
      refine eN 24 4 (t := 3) (fun b => .slice (some ⟨b, 0, none⟩) 4 4) #[.int .i64 0, .int .i64 600, .int .i64 0, .int .i64 401] hF hM (by kernel_rfl) (fun _ => by kernel_rfl) fun bb4 a w hF hM => ?_
      exact ⟨bb2, AA3, cc3, bb4, AA5, cc5, bb6, AA7, cc7, ((hF.repl 9 (by kernel_rfl)).cast (by kernel_rfl)), ((hM.repl 3 (by kernel_rfl)).cast (by kernel_rfl))⟩
    · intro s0 s1 s2 s3 s4 s5 s6 s7 s8 s9 s10 s11 s12 s13 s14 s15 s16 s17 hc hi hp a w hS
      obtain rfl : s7 = false := hi
      obtain rfl : s6 = true := hp 6 (by kernel_rfl)
      obtain rfl : s4 = true := hp 4 (by kernel_rfl)
      obtain ⟨bb2, AA3, cc3, bb4, AA5, cc5, bb6, AA7, cc7, hF, hM⟩ := hS
      refine sOwn 5 (f := 31) (args := #[.slice (some ⟨bb4, 0, none⟩) 4 4]) (mk := fun v => v) (e := 30) (size := 2) (m := 2) (xs := (flat2 ([(0, 600), (0, 401)]))) hF hM (by kernel_rfl) rfl (by decide) (by kernel_rfl) (fun _ => by kernel_rfl) (trace_w (some ⟨bb4, 0, none⟩) [0, 600, 0, 401] 4 w (hM.roRow (k := 4) rfl) (by decide)) fun AA5 cc5 a w hF hM => ?_
      exact ⟨bb2, AA3, cc3, bb4, AA5, cc5, bb6, AA7, cc7, ((hF.repl 10 (by kernel_rfl)).cast (by kernel_rfl)), ((hM.repl 4 (by kernel_rfl)).cast (by kernel_rfl))⟩
    · intro s0 s1 s2 s3 s4 s5 s6 s7 s8 s9 s10 s11 s12 s13 s14 s15 s16 s17 hc hi hp a w hS
      obtain rfl : s8 = false := hi
      obtain rfl : s7 = true := hp 7 (by kernel_rfl)
      obtain rfl : s5 = true := hp 5 (by kernel_rfl)
      obtain rfl : s4 = true := hp 4 (by kernel_rfl)
      obtain ⟨bb2, AA3, cc3, bb4, AA5, cc5, bb6, AA7, cc7, hF, hM⟩ := hS
      refine eM 26 (v := .bool false) hF hM (by kernel_rfl) (Yld.to (yld_call (f := 30) (args := #[.agg #[.int .i64 1000, .int .i64 131072], .slice AA5 2 cc5]) hF (by kernel_rfl) (fun _ => by kernel_rfl) (fun w hM => fits3_w 1000 131072 AA5 ([(0, 600), (0, 401)]) _ w (ro_of_own (hM.ok 5 _ rfl)))) (by kernel_rfl)) fun a w hF hM => ?_
      exact ⟨bb2, AA3, cc3, bb4, AA5, cc5, bb6, AA7, cc7, ((hF.repl 11 (by kernel_rfl)).cast (by kernel_rfl)), (hM.cast (by kernel_rfl))⟩
    · intro s0 s1 s2 s3 s4 s5 s6 s7 s8 s9 s10 s11 s12 s13 s14 s15 s16 s17 hc hi hp a w hS
      obtain rfl : s9 = false := hi
      obtain rfl : s8 = true := hp 8 (by kernel_rfl)
      obtain rfl : s4 = true := hp 4 (by kernel_rfl)
      obtain ⟨bb2, AA3, cc3, bb4, AA5, cc5, bb6, AA7, cc7, hF, hM⟩ := hS
      refine eP 27 (v0 := .bool true) (v := .bool true) hF (by kernel_rfl) (fun _ => by kernel_rfl) rfl fun a hF => ?_
      exact ⟨bb2, AA3, cc3, bb4, AA5, cc5, bb6, AA7, cc7, ((hF.repl 12 (by kernel_rfl)).cast (by kernel_rfl)), (hM.cast (by kernel_rfl))⟩
    · intro s0 s1 s2 s3 s4 s5 s6 s7 s8 s9 s10 s11 s12 s13 s14 s15 s16 s17 hc hi hp a w hS
      obtain rfl : s10 = false := hi
      obtain rfl : s9 = true := hp 9 (by kernel_rfl)
      obtain rfl : s4 = true := hp 4 (by kernel_rfl)
      obtain ⟨bb2, AA3, cc3, bb4, AA5, cc5, bb6, AA7, cc7, hF, hM⟩ := hS
      refine eP 28 (v0 := .bool true) (v := .bool true) hF (by kernel_rfl) (fun _ => by kernel_rfl) rfl fun a hF => ?_
      exact ⟨bb2, AA3, cc3, bb4, AA5, cc5, bb6, AA7, cc7, ((hF.repl 13 (by kernel_rfl)).cast (by kernel_rfl)), (hM.cast (by kernel_rfl))⟩
    · intro s0 s1 s2 s3 s4 s5 s6 s7 s8 s9 s10 s11 s12 s13 s14 s15 s16 s17 hc hi hp a w hS
      obtain rfl : s11 = false := hi
      obtain rfl : s10 = true := hp 10 (by kernel_rfl)
      obtain ⟨bb2, AA3, cc3, bb4, AA5, cc5, bb6, AA7, cc7, hF, hM⟩ := hS
      refine eP 29 (v0 := .bool true) (v := .bool true) hF (by kernel_rfl) (fun _ => by kernel_rfl) rfl fun a hF => ?_
      exact ⟨bb2, AA3, cc3, bb4, AA5, cc5, bb6, AA7, cc7, ((hF.repl 14 (by kernel_rfl)).cast (by kernel_rfl)), (hM.cast (by kernel_rfl))⟩
    · intro s0 s1 s2 s3 s4 s5 s6 s7 s8 s9 s10 s11 s12 s13 s14 s15 s16 s17 hc hi hp a w hS
      obtain rfl : s12 = false := hi
      obtain rfl : s11 = true := hp 11 (by kernel_rfl)
      obtain ⟨bb2, AA3, cc3, bb4, AA5, cc5, bb6, AA7, cc7, hF, hM⟩ := hS
      refine eL 30 1 0 (v := .agg #[.int .i64 1000, .int .i64 131072]) hF hM (by kernel_rfl) rfl rfl (by kernel_rfl) (by kernel_rfl) fun a w hF hM => ?_
      exact ⟨bb2, AA3, cc3, bb4, AA5, cc5, bb6, AA7, cc7, ((hF.repl 15 (by kernel_rfl)).cast (by kernel_rfl)), (hM.cast (by kernel_rfl))⟩
    · intro s0 s1 s2 s3 s4 s5 s6 s7 s8 s9 s10 s11 s12 s13 s14 s15 s16 s17 hc hi hp a w hS
      obtain rfl : s13 = false := hi
      obtain rfl : s11 = true := hp 11 (by kernel_rfl)
      obtain ⟨bb2, AA3, cc3, bb4, AA5, cc5, bb6, AA7, cc7, hF, hM⟩ := hS
      refine eN 31 6 (t := 3) (fun b => .slice (some ⟨b, 0, none⟩) 4 4) #[.int .i64 0, .int .i64 1000, .int .i64 800, .int .i64 100] hF hM (by kernel_rfl) (fun _ => by kernel_rfl) fun bb6 a w hF hM => ?_
      exact ⟨bb2, AA3, cc3, bb4, AA5, cc5, bb6, AA7, cc7, ((hF.repl 16 (by kernel_rfl)).cast (by kernel_rfl)), ((hM.repl 5 (by kernel_rfl)).cast (by kernel_rfl))⟩
    · intro s0 s1 s2 s3 s4 s5 s6 s7 s8 s9 s10 s11 s12 s13 s14 s15 s16 s17 hc hi hp a w hS
      obtain rfl : s14 = false := hi
      obtain rfl : s13 = true := hp 13 (by kernel_rfl)
      obtain rfl : s11 = true := hp 11 (by kernel_rfl)
      obtain ⟨bb2, AA3, cc3, bb4, AA5, cc5, bb6, AA7, cc7, hF, hM⟩ := hS
      refine sOwn 7 (f := 31) (args := #[.slice (some ⟨bb6, 0, none⟩) 4 4]) (mk := fun v => v) (e := 30) (size := 2) (m := 2) (xs := (flat2 ([(0, 1000), (800, 100)]))) hF hM (by kernel_rfl) rfl (by decide) (by kernel_rfl) (fun _ => by kernel_rfl) (trace_w (some ⟨bb6, 0, none⟩) [0, 1000, 800, 100] 4 w (hM.roRow (k := 6) rfl) (by decide)) fun AA7 cc7 a w hF hM => ?_
      exact ⟨bb2, AA3, cc3, bb4, AA5, cc5, bb6, AA7, cc7, ((hF.repl 17 (by kernel_rfl)).cast (by kernel_rfl)), ((hM.repl 6 (by kernel_rfl)).cast (by kernel_rfl))⟩
    · intro s0 s1 s2 s3 s4 s5 s6 s7 s8 s9 s10 s11 s12 s13 s14 s15 s16 s17 hc hi hp a w hS
      obtain rfl : s15 = false := hi
      obtain rfl : s14 = true := hp 14 (by kernel_rfl)
      obtain rfl : s12 = true := hp 12 (by kernel_rfl)
      obtain rfl : s11 = true := hp 11 (by kernel_rfl)
      obtain ⟨bb2, AA3, cc3, bb4, AA5, cc5, bb6, AA7, cc7, hF, hM⟩ := hS
      refine eM 33 (v := .bool true) hF hM (by kernel_rfl) (Yld.to (yld_call (f := 30) (args := #[.agg #[.int .i64 1000, .int .i64 131072], .slice AA7 2 cc7]) hF (by kernel_rfl) (fun _ => by kernel_rfl) (fun w hM => fits3_w 1000 131072 AA7 ([(0, 1000), (800, 100)]) _ w (ro_of_own (hM.ok 7 _ rfl)))) (by kernel_rfl)) fun a w hF hM => ?_
      exact ⟨bb2, AA3, cc3, bb4, AA5, cc5, bb6, AA7, cc7, ((hF.repl 18 (by kernel_rfl)).cast (by kernel_rfl)), (hM.cast (by kernel_rfl))⟩
    · intro s0 s1 s2 s3 s4 s5 s6 s7 s8 s9 s10 s11 s12 s13 s14 s15 s16 s17 hc hi hp a w hS
      obtain rfl : s16 = false := hi
      obtain rfl : s15 = true := hp 15 (by kernel_rfl)
      obtain rfl : s11 = true := hp 11 (by kernel_rfl)
      obtain ⟨bb2, AA3, cc3, bb4, AA5, cc5, bb6, AA7, cc7, hF, hM⟩ := hS
      refine eP 34 (v0 := .bool true) (v := .bool true) hF (by kernel_rfl) (fun _ => by kernel_rfl) rfl fun a hF => ?_
      exact ⟨bb2, AA3, cc3, bb4, AA5, cc5, bb6, AA7, cc7, ((hF.repl 19 (by kernel_rfl)).cast (by kernel_rfl)), (hM.cast (by kernel_rfl))⟩
    · intro s0 s1 s2 s3 s4 s5 s6 s7 s8 s9 s10 s11 s12 s13 s14 s15 s16 s17 hc hi hp a w hS
      obtain rfl : s17 = false := hi
      obtain rfl : s16 = true := hp 16 (by kernel_rfl)
      obtain ⟨bb2, AA3, cc3, bb4, AA5, cc5, bb6, AA7, cc7, hF, hM⟩ := hS
      refine eP 2 (v0 := .bool true) (v := .bool true) hF (by kernel_rfl) (fun _ => by kernel_rfl) rfl fun a hF => ?_
      exact ⟨bb2, AA3, cc3, bb4, AA5, cc5, bb6, AA7, cc7, ((hF.repl 2 (by kernel_rfl)).cast (by kernel_rfl)), (hM.cast (by kernel_rfl))⟩
  · intro a w hS
    obtain ⟨bb2, AA3, cc3, bb4, AA5, cc5, bb6, AA7, cc7, hF, hM⟩ := hS
    replace hF : Fr 135 [(0, some (.bool false)), (1, some (.pointer (some ⟨bb1, 0, none⟩))), (2, some (.bool true)), (18, some (.agg #[.int .i64 1000, .int .i64 131072])), (19, some (.slice (some ⟨bb2, 0, none⟩) 4 4)), (20, some (.slice AA3 2 cc3)), (21, some (.bool true)), (22, some (.bool true)), (23, some (.agg #[.int .i64 1000, .int .i64 131072])), (24, some (.slice (some ⟨bb4, 0, none⟩) 4 4)), (25, some (.slice AA5 2 cc5)), (26, some (.bool false)), (27, some (.bool true)), (28, some (.bool true)), (29, some (.bool true)), (30, some (.agg #[.int .i64 1000, .int .i64 131072])), (31, some (.slice (some ⟨bb6, 0, none⟩) 4 4)), (32, some (.slice AA7 2 cc7)), (33, some (.bool true)), (34, some (.bool true))] a := hF.cast (by kernel_rfl)
    replace hM : Mem w0.heap.size w0 [(1, some (.row bb1 23 #[.int .i64 1000, .int .i64 131072])), (2, some (.row bb2 3 #[.int .i64 0, .int .i64 600, .int .i64 0, .int .i64 400])), (3, some (.own (.slice AA3 2 cc3) 30 2 2 (flat2 ([(0, 600), (0, 400)])))), (4, some (.row bb4 3 #[.int .i64 0, .int .i64 600, .int .i64 0, .int .i64 401])), (5, some (.own (.slice AA5 2 cc5) 30 2 2 (flat2 ([(0, 600), (0, 401)])))), (6, some (.row bb6 3 #[.int .i64 0, .int .i64 1000, .int .i64 800, .int .i64 100])), (7, some (.own (.slice AA7 2 cc7) 30 2 2 (flat2 ([(0, 1000), (800, 100)]))))] w := hM.cast (by kernel_rfl)
    refine hK3 _ _ ?_
    refine wp_seq_k fun K4 hK4 => ?_
    refine rF (by kernel_rfl) (by kernel_rfl) (fun S a w => ∃ bb8 : Nat, ∃ AA9 : Option Addr, ∃ cc9 : Nat, ∃ bb10 : Nat, ∃ AA11 : Option Addr, ∃ cc11 : Nat, Fr 135 [(0, some (.bool false)), (1, some (.pointer (some ⟨bb1, 0, none⟩))), (2, some (.bool true)), (3, (cond (S.getD 14 false) (some (.bool true)) none)), (35, (cond (S.getD 0 false) (some (.agg #[.int .i64 1000, .int .i64 131072])) none)), (36, (cond (S.getD 1 false) (some (.slice (some ⟨bb8, 0, none⟩) 4 4)) none)), (37, (cond (S.getD 2 false) (some (.slice AA9 2 cc9)) none)), (38, (cond (S.getD 3 false) (some (.bool true)) none)), (39, (cond (S.getD 4 false) (some (.bool true)) none)), (40, (cond (S.getD 5 false) (some (.agg #[.int .i64 1000, .int .i64 131072])) none)), (41, (cond (S.getD 6 false) (some (.slice (some ⟨bb10, 0, none⟩) 6 6)) none)), (42, (cond (S.getD 7 false) (some (.slice AA11 3 cc11)) none)), (43, (cond (S.getD 8 false) (some (.bool true)) none)), (44, (cond (S.getD 9 false) (some (.bool true)) none)), (45, (cond (S.getD 10 false) (some (.bool true)) none)), (46, (cond (S.getD 11 false) (some (.agg #[.int .i64 1000, .int .i64 131072])) none)), (47, (cond (S.getD 12 false) (some (.bool true)) none)), (48, (cond (S.getD 13 false) (some (.bool true)) none))] a ∧ Mem w0.heap.size w0 [(1, some (.row bb1 23 #[.int .i64 1000, .int .i64 131072])), (8, (cond (S.getD 1 false) (some (.row bb8 3 #[.int .i64 0, .int .i64 1000, .int .i64 7, .int .i64 1])) none)), (9, (cond (S.getD 2 false) (some (.own (.slice AA9 2 cc9) 30 2 2 (flat2 ([(0, 1000), (7, 1)])))) none)), (10, (cond (S.getD 6 false) (some (.row bb10 3 #[.int .i64 0, .int .i64 1000, .int .i64 8, .int .i64 1, .int .i64 8, .int .i64 1])) none)), (11, (cond (S.getD 7 false) (some (.own (.slice AA11 3 cc11) 30 2 3 (flat2 ([(0, 1000), (8, 1), (8, 1)])))) none))] w) ?_ ?_ ?_
    · exact ⟨0, none, 0, 0, none, 0, (((((((((((((((((((Fr.nil hF).co hF (i := 48) (by kernel_rfl)).co hF (i := 47) (by kernel_rfl)).co hF (i := 46) (by kernel_rfl)).co hF (i := 45) (by kernel_rfl)).co hF (i := 44) (by kernel_rfl)).co hF (i := 43) (by kernel_rfl)).co hF (i := 42) (by kernel_rfl)).co hF (i := 41) (by kernel_rfl)).co hF (i := 40) (by kernel_rfl)).co hF (i := 39) (by kernel_rfl)).co hF (i := 38) (by kernel_rfl)).co hF (i := 37) (by kernel_rfl)).co hF (i := 36) (by kernel_rfl)).co hF (i := 35) (by kernel_rfl)).co hF (i := 3) (by kernel_rfl)).co hF (i := 2) (by kernel_rfl)).co hF (i := 1) (by kernel_rfl)).co hF (i := 0) (by kernel_rfl)), hM.drew.sub (((((Sub.nil.co (k := 11) (by kernel_rfl)).co (k := 10) (by kernel_rfl)).co (k := 9) (by kernel_rfl)).co (k := 8) (by kernel_rfl)).co (k := 1) (by kernel_rfl))⟩
    · refine stC ?_ (stC ?_ (stC ?_ (stC ?_ (stC ?_ (stC ?_ (stC ?_ (stC ?_ (stC ?_ (stC ?_ (stC ?_ (stC ?_ (stC ?_ (stC ?_ (stC ?_ (trivial)))))))))))))))
      · intro s0 s1 s2 s3 s4 s5 s6 s7 s8 s9 s10 s11 s12 s13 s14 hc hi hp a w hS
        obtain rfl : s0 = false := hi
        obtain ⟨bb8, AA9, cc9, bb10, AA11, cc11, hF, hM⟩ := hS
        refine eL 35 1 0 (v := .agg #[.int .i64 1000, .int .i64 131072]) hF hM (by kernel_rfl) rfl rfl (by kernel_rfl) (by kernel_rfl) fun a w hF hM => ?_
        exact ⟨bb8, AA9, cc9, bb10, AA11, cc11, ((hF.repl 4 (by kernel_rfl)).cast (by kernel_rfl)), (hM.cast (by kernel_rfl))⟩
      · intro s0 s1 s2 s3 s4 s5 s6 s7 s8 s9 s10 s11 s12 s13 s14 hc hi hp a w hS
        obtain rfl : s1 = false := hi
        obtain ⟨bb8, AA9, cc9, bb10, AA11, cc11, hF, hM⟩ := hS
        refine eN 36 8 (t := 3) (fun b => .slice (some ⟨b, 0, none⟩) 4 4) #[.int .i64 0, .int .i64 1000, .int .i64 7, .int .i64 1] hF hM (by kernel_rfl) (fun _ => by kernel_rfl) fun bb8 a w hF hM => ?_
        exact ⟨bb8, AA9, cc9, bb10, AA11, cc11, ((hF.repl 5 (by kernel_rfl)).cast (by kernel_rfl)), ((hM.repl 1 (by kernel_rfl)).cast (by kernel_rfl))⟩
      · intro s0 s1 s2 s3 s4 s5 s6 s7 s8 s9 s10 s11 s12 s13 s14 hc hi hp a w hS
        obtain rfl : s2 = false := hi
        obtain rfl : s1 = true := hp 1 (by kernel_rfl)
        obtain ⟨bb8, AA9, cc9, bb10, AA11, cc11, hF, hM⟩ := hS
        refine sOwn 9 (f := 31) (args := #[.slice (some ⟨bb8, 0, none⟩) 4 4]) (mk := fun v => v) (e := 30) (size := 2) (m := 2) (xs := (flat2 ([(0, 1000), (7, 1)]))) hF hM (by kernel_rfl) rfl (by decide) (by kernel_rfl) (fun _ => by kernel_rfl) (trace_w (some ⟨bb8, 0, none⟩) [0, 1000, 7, 1] 4 w (hM.roRow (k := 8) rfl) (by decide)) fun AA9 cc9 a w hF hM => ?_
        exact ⟨bb8, AA9, cc9, bb10, AA11, cc11, ((hF.repl 6 (by kernel_rfl)).cast (by kernel_rfl)), ((hM.repl 2 (by kernel_rfl)).cast (by kernel_rfl))⟩
      · intro s0 s1 s2 s3 s4 s5 s6 s7 s8 s9 s10 s11 s12 s13 s14 hc hi hp a w hS
        obtain rfl : s3 = false := hi
        obtain rfl : s2 = true := hp 2 (by kernel_rfl)
        obtain rfl : s0 = true := hp 0 (by kernel_rfl)
        obtain ⟨bb8, AA9, cc9, bb10, AA11, cc11, hF, hM⟩ := hS
        refine eM 38 (v := .bool true) hF hM (by kernel_rfl) (Yld.to (yld_call (f := 29) (args := #[.agg #[.int .i64 1000, .int .i64 131072], .slice AA9 2 cc9, .int .i64 1]) hF (by kernel_rfl) (fun _ => by kernel_rfl) (fun w hM => first3_w 1000 131072 AA9 ([(0, 1000), (7, 1)]) _ 1 w (ro_of_own (hM.ok 9 _ rfl)))) (by kernel_rfl)) fun a w hF hM => ?_
        exact ⟨bb8, AA9, cc9, bb10, AA11, cc11, ((hF.repl 7 (by kernel_rfl)).cast (by kernel_rfl)), (hM.cast (by kernel_rfl))⟩
      · intro s0 s1 s2 s3 s4 s5 s6 s7 s8 s9 s10 s11 s12 s13 s14 hc hi hp a w hS
        obtain rfl : s4 = false := hi
        obtain rfl : s3 = true := hp 3 (by kernel_rfl)
        obtain ⟨bb8, AA9, cc9, bb10, AA11, cc11, hF, hM⟩ := hS
        refine eP 39 (v0 := .bool true) (v := .bool true) hF (by kernel_rfl) (fun _ => by kernel_rfl) rfl fun a hF => ?_
        exact ⟨bb8, AA9, cc9, bb10, AA11, cc11, ((hF.repl 8 (by kernel_rfl)).cast (by kernel_rfl)), (hM.cast (by kernel_rfl))⟩
      · intro s0 s1 s2 s3 s4 s5 s6 s7 s8 s9 s10 s11 s12 s13 s14 hc hi hp a w hS
        obtain rfl : s5 = false := hi
        obtain rfl : s4 = true := hp 4 (by kernel_rfl)
        obtain ⟨bb8, AA9, cc9, bb10, AA11, cc11, hF, hM⟩ := hS
        refine eL 40 1 0 (v := .agg #[.int .i64 1000, .int .i64 131072]) hF hM (by kernel_rfl) rfl rfl (by kernel_rfl) (by kernel_rfl) fun a w hF hM => ?_
        exact ⟨bb8, AA9, cc9, bb10, AA11, cc11, ((hF.repl 9 (by kernel_rfl)).cast (by kernel_rfl)), (hM.cast (by kernel_rfl))⟩
      · intro s0 s1 s2 s3 s4 s5 s6 s7 s8 s9 s10 s11 s12 s13 s14 hc hi hp a w hS
        obtain rfl : s6 = false := hi
        obtain rfl : s4 = true := hp 4 (by kernel_rfl)
        obtain ⟨bb8, AA9, cc9, bb10, AA11, cc11, hF, hM⟩ := hS
        refine eN 41 10 (t := 3) (fun b => .slice (some ⟨b, 0, none⟩) 6 6) #[.int .i64 0, .int .i64 1000, .int .i64 8, .int .i64 1, .int .i64 8, .int .i64 1] hF hM (by kernel_rfl) (fun _ => by kernel_rfl) fun bb10 a w hF hM => ?_
        exact ⟨bb8, AA9, cc9, bb10, AA11, cc11, ((hF.repl 10 (by kernel_rfl)).cast (by kernel_rfl)), ((hM.repl 3 (by kernel_rfl)).cast (by kernel_rfl))⟩
      · intro s0 s1 s2 s3 s4 s5 s6 s7 s8 s9 s10 s11 s12 s13 s14 hc hi hp a w hS
        obtain rfl : s7 = false := hi
        obtain rfl : s6 = true := hp 6 (by kernel_rfl)
        obtain rfl : s4 = true := hp 4 (by kernel_rfl)
        obtain ⟨bb8, AA9, cc9, bb10, AA11, cc11, hF, hM⟩ := hS
        refine sOwn 11 (f := 31) (args := #[.slice (some ⟨bb10, 0, none⟩) 6 6]) (mk := fun v => v) (e := 30) (size := 2) (m := 3) (xs := (flat2 ([(0, 1000), (8, 1), (8, 1)]))) hF hM (by kernel_rfl) rfl (by decide) (by kernel_rfl) (fun _ => by kernel_rfl) (trace_w (some ⟨bb10, 0, none⟩) [0, 1000, 8, 1, 8, 1] 6 w (hM.roRow (k := 10) rfl) (by decide)) fun AA11 cc11 a w hF hM => ?_
        exact ⟨bb8, AA9, cc9, bb10, AA11, cc11, ((hF.repl 11 (by kernel_rfl)).cast (by kernel_rfl)), ((hM.repl 4 (by kernel_rfl)).cast (by kernel_rfl))⟩
      · intro s0 s1 s2 s3 s4 s5 s6 s7 s8 s9 s10 s11 s12 s13 s14 hc hi hp a w hS
        obtain rfl : s8 = false := hi
        obtain rfl : s7 = true := hp 7 (by kernel_rfl)
        obtain rfl : s5 = true := hp 5 (by kernel_rfl)
        obtain rfl : s4 = true := hp 4 (by kernel_rfl)
        obtain ⟨bb8, AA9, cc9, bb10, AA11, cc11, hF, hM⟩ := hS
        refine eM 43 (v := .bool true) hF hM (by kernel_rfl) (Yld.to (yld_call (f := 29) (args := #[.agg #[.int .i64 1000, .int .i64 131072], .slice AA11 3 cc11, .int .i64 2]) hF (by kernel_rfl) (fun _ => by kernel_rfl) (fun w hM => first3_w 1000 131072 AA11 ([(0, 1000), (8, 1), (8, 1)]) _ 2 w (ro_of_own (hM.ok 11 _ rfl)))) (by kernel_rfl)) fun a w hF hM => ?_
        exact ⟨bb8, AA9, cc9, bb10, AA11, cc11, ((hF.repl 12 (by kernel_rfl)).cast (by kernel_rfl)), (hM.cast (by kernel_rfl))⟩
      · intro s0 s1 s2 s3 s4 s5 s6 s7 s8 s9 s10 s11 s12 s13 s14 hc hi hp a w hS
        obtain rfl : s9 = false := hi
        obtain rfl : s8 = true := hp 8 (by kernel_rfl)
        obtain rfl : s4 = true := hp 4 (by kernel_rfl)
        obtain ⟨bb8, AA9, cc9, bb10, AA11, cc11, hF, hM⟩ := hS
        refine eP 44 (v0 := .bool true) (v := .bool true) hF (by kernel_rfl) (fun _ => by kernel_rfl) rfl fun a hF => ?_
        exact ⟨bb8, AA9, cc9, bb10, AA11, cc11, ((hF.repl 13 (by kernel_rfl)).cast (by kernel_rfl)), (hM.cast (by kernel_rfl))⟩
      · intro s0 s1 s2 s3 s4 s5 s6 s7 s8 s9 s10 s11 s12 s13 s14 hc hi hp a w hS
        obtain rfl : s10 = false := hi
        obtain rfl : s9 = true := hp 9 (by kernel_rfl)
        obtain ⟨bb8, AA9, cc9, bb10, AA11, cc11, hF, hM⟩ := hS
        refine eP 45 (v0 := .bool true) (v := .bool true) hF (by kernel_rfl) (fun _ => by kernel_rfl) rfl fun a hF => ?_
        exact ⟨bb8, AA9, cc9, bb10, AA11, cc11, ((hF.repl 14 (by kernel_rfl)).cast (by kernel_rfl)), (hM.cast (by kernel_rfl))⟩
      · intro s0 s1 s2 s3 s4 s5 s6 s7 s8 s9 s10 s11 s12 s13 s14 hc hi hp a w hS
        obtain rfl : s11 = false := hi
        obtain rfl : s10 = true := hp 10 (by kernel_rfl)
        obtain ⟨bb8, AA9, cc9, bb10, AA11, cc11, hF, hM⟩ := hS
        refine eL 46 1 0 (v := .agg #[.int .i64 1000, .int .i64 131072]) hF hM (by kernel_rfl) rfl rfl (by kernel_rfl) (by kernel_rfl) fun a w hF hM => ?_
        exact ⟨bb8, AA9, cc9, bb10, AA11, cc11, ((hF.repl 15 (by kernel_rfl)).cast (by kernel_rfl)), (hM.cast (by kernel_rfl))⟩
      · intro s0 s1 s2 s3 s4 s5 s6 s7 s8 s9 s10 s11 s12 s13 s14 hc hi hp a w hS
        obtain rfl : s12 = false := hi
        obtain rfl : s11 = true := hp 11 (by kernel_rfl)
        obtain rfl : s10 = true := hp 10 (by kernel_rfl)
        obtain ⟨bb8, AA9, cc9, bb10, AA11, cc11, hF, hM⟩ := hS
        refine eM 47 (v := .bool true) hF hM (by kernel_rfl) (Yld.to (yld_call (f := 29) (args := #[.agg #[.int .i64 1000, .int .i64 131072], .slice none 0 0, .int .i64 (-1)]) hF (by kernel_rfl) (fun _ => by kernel_rfl) (fun w hM => first3_w 1000 131072 none ([] : List (Int × Int)) _ (-1) w Ro.nil)) (by kernel_rfl)) fun a w hF hM => ?_
        exact ⟨bb8, AA9, cc9, bb10, AA11, cc11, ((hF.repl 16 (by kernel_rfl)).cast (by kernel_rfl)), (hM.cast (by kernel_rfl))⟩
      · intro s0 s1 s2 s3 s4 s5 s6 s7 s8 s9 s10 s11 s12 s13 s14 hc hi hp a w hS
        obtain rfl : s13 = false := hi
        obtain rfl : s12 = true := hp 12 (by kernel_rfl)
        obtain rfl : s10 = true := hp 10 (by kernel_rfl)
        obtain ⟨bb8, AA9, cc9, bb10, AA11, cc11, hF, hM⟩ := hS
        refine eP 48 (v0 := .bool true) (v := .bool true) hF (by kernel_rfl) (fun _ => by kernel_rfl) rfl fun a hF => ?_
        exact ⟨bb8, AA9, cc9, bb10, AA11, cc11, ((hF.repl 17 (by kernel_rfl)).cast (by kernel_rfl)), (hM.cast (by kernel_rfl))⟩
      · intro s0 s1 s2 s3 s4 s5 s6 s7 s8 s9 s10 s11 s12 s13 s14 hc hi hp a w hS
        obtain rfl : s14 = false := hi
        obtain rfl : s13 = true := hp 13 (by kernel_rfl)
        obtain ⟨bb8, AA9, cc9, bb10, AA11, cc11, hF, hM⟩ := hS
        refine eP 3 (v0 := .bool true) (v := .bool true) hF (by kernel_rfl) (fun _ => by kernel_rfl) rfl fun a hF => ?_
        exact ⟨bb8, AA9, cc9, bb10, AA11, cc11, ((hF.repl 3 (by kernel_rfl)).cast (by kernel_rfl)), (hM.cast (by kernel_rfl))⟩
    · intro a w hS
      obtain ⟨bb8, AA9, cc9, bb10, AA11, cc11, hF, hM⟩ := hS
      replace hF : Fr 135 [(0, some (.bool false)), (1, some (.pointer (some ⟨bb1, 0, none⟩))), (2, some (.bool true)), (3, some (.bool true)), (35, some (.agg #[.int .i64 1000, .int .i64 131072])), (36, some (.slice (some ⟨bb8, 0, none⟩) 4 4)), (37, some (.slice AA9 2 cc9)), (38, some (.bool true)), (39, some (.bool true)), (40, some (.agg #[.int .i64 1000, .int .i64 131072])), (41, some (.slice (some ⟨bb10, 0, none⟩) 6 6)), (42, some (.slice AA11 3 cc11)), (43, some (.bool true)), (44, some (.bool true)), (45, some (.bool true)), (46, some (.agg #[.int .i64 1000, .int .i64 131072])), (47, some (.bool true)), (48, some (.bool true))] a := hF.cast (by kernel_rfl)
      replace hM : Mem w0.heap.size w0 [(1, some (.row bb1 23 #[.int .i64 1000, .int .i64 131072])), (8, some (.row bb8 3 #[.int .i64 0, .int .i64 1000, .int .i64 7, .int .i64 1])), (9, some (.own (.slice AA9 2 cc9) 30 2 2 (flat2 ([(0, 1000), (7, 1)])))), (10, some (.row bb10 3 #[.int .i64 0, .int .i64 1000, .int .i64 8, .int .i64 1, .int .i64 8, .int .i64 1])), (11, some (.own (.slice AA11 3 cc11) 30 2 3 (flat2 ([(0, 1000), (8, 1), (8, 1)]))))] w := hM.cast (by kernel_rfl)
      refine hK4 _ _ ?_
      refine wp_seq_k fun K5 hK5 => ?_
      refine wp_region_lit ?_
      refine wl (eL 50 1 0 (v := .agg #[.int .i64 1000, .int .i64 131072]) hF hM (by kernel_rfl) rfl rfl (by kernel_rfl) (by kernel_rfl) fun a w hF hM => ?_)
      refine wl (eM 51 (v := .tuple #[.int .i64 1000, .int .i64 0]) hF hM (by kernel_rfl) (Yld.to (yld_call (f := 13) (args := #[.agg #[.int .i64 1000, .int .i64 131072], .int .i64 0]) hF (by kernel_rfl) (fun _ => by kernel_rfl) (fun w hM => bWithin_w 1000 131072 0 w)) (by kernel_rfl)) fun a w hF hM => ?_)
      refine sB 5 [(49, .tuple #[.int .i64 1000, .int .i64 0]), (52, .int .i64 1000), (53, .int .i64 0), (4, .int .i64 1000), (5, .int .i64 0)] hF (by kernel_rfl) fun a hF => ?_
      refine wpList_nil ?_
      refine hK5 _ _ ?_
      refine wp_seq_k fun K6 hK6 => ?_
      refine wp_region_lit ?_
      refine wl (eL 55 1 0 (v := .agg #[.int .i64 1000, .int .i64 131072]) hF hM (by kernel_rfl) rfl rfl (by kernel_rfl) (by kernel_rfl) fun a w hF hM => ?_)
      refine wl (eM 56 (v := .tuple #[.int .i64 1001, .int .i64 0]) hF hM (by kernel_rfl) (Yld.to (yld_call (f := 13) (args := #[.agg #[.int .i64 1000, .int .i64 131072], .int .i64 15]) hF (by kernel_rfl) (fun _ => by kernel_rfl) (fun w hM => bWithin_w 1000 131072 15 w)) (by kernel_rfl)) fun a w hF hM => ?_)
      refine sB 5 [(54, .tuple #[.int .i64 1001, .int .i64 0]), (57, .int .i64 1001), (58, .int .i64 0), (6, .int .i64 1001), (7, .int .i64 0)] hF (by kernel_rfl) fun a hF => ?_
      refine wpList_nil ?_
      refine hK6 _ _ ?_
      refine wp_seq_k fun K7 hK7 => ?_
      refine wp_region_lit ?_
      refine wl (eL 60 1 0 (v := .agg #[.int .i64 1000, .int .i64 131072]) hF hM (by kernel_rfl) rfl rfl (by kernel_rfl) (by kernel_rfl) fun a w hF hM => ?_)
      refine wl (eM 61 (v := .tuple #[.int .i64 1002, .int .i64 0]) hF hM (by kernel_rfl) (Yld.to (yld_call (f := 13) (args := #[.agg #[.int .i64 1000, .int .i64 131072], .int .i64 16]) hF (by kernel_rfl) (fun _ => by kernel_rfl) (fun w hM => bWithin_w 1000 131072 16 w)) (by kernel_rfl)) fun a w hF hM => ?_)
      refine sB 5 [(59, .tuple #[.int .i64 1002, .int .i64 0]), (62, .int .i64 1002), (63, .int .i64 0), (8, .int .i64 1002), (9, .int .i64 0)] hF (by kernel_rfl) fun a hF => ?_
      refine wpList_nil ?_
      refine hK7 _ _ ?_
      refine wp_seq_k fun K8 hK8 => ?_
      refine wp_region_lit ?_
      refine wl (eL 65 1 0 (v := .agg #[.int .i64 1000, .int .i64 131072]) hF hM (by kernel_rfl) rfl rfl (by kernel_rfl) (by kernel_rfl) fun a w hF hM => ?_)
      refine sB 1 [(66, .agg #[.int .i64 24, .int .i64 1048576])] hF (by kernel_rfl) fun a hF => ?_
      refine wl (eN 67 12 (t := 23) (fun b => .slice (some ⟨b, 0, none⟩) 2 2) #[.int .i64 1000, .int .i64 131072, .int .i64 24, .int .i64 1048576] hF hM (by kernel_rfl) (fun _ => by kernel_rfl) fun bb12 a w hF hM => ?_)
      refine wl (eM 68 (v := .tuple #[.agg #[.int .i64 1024, .int .i64 1179648], .int .i64 0]) hF hM (by kernel_rfl) (Yld.to (yld_call (f := 11) (args := #[.slice (some ⟨bb12, 0, none⟩) 2 2]) hF (by kernel_rfl) (fun _ => by kernel_rfl) (fun w hM => bSum_w (some ⟨bb12, 0, none⟩) [(1000, 131072), (24, 1048576)] _ w (hM.roRow (k := 12) rfl))) (by kernel_rfl)) fun a w hF hM => ?_)
      refine sB 3 [(64, .tuple #[.agg #[.int .i64 1024, .int .i64 1179648], .int .i64 0]), (69, .agg #[.int .i64 1024, .int .i64 1179648]), (70, .int .i64 0)] hF (by kernel_rfl) fun a hF => ?_
      refine wl (eN 10 13 (t := 23) (fun b => .pointer (some ⟨b, 0, none⟩)) #[.int .i64 0, .int .i64 0] hF hM (by kernel_rfl) (fun _ => by kernel_rfl) fun bb13 a w hF hM => ?_)
      refine wl (sStore (i := 13) (off := 0) (cs' := #[.int .i64 1024, .int .i64 1179648]) hF hM (by kernel_rfl) rfl rfl (by kernel_rfl) (by kernel_rfl) rfl (by kernel_rfl) fun w hM => ?_)
      refine sB 1 [(11, .int .i64 0)] hF (by kernel_rfl) fun a hF => ?_
      refine wpList_nil ?_
      refine hK8 _ _ ?_
      refine wp_seq_k fun K9 hK9 => ?_
      refine wp_region_lit ?_
      refine wl (eN 72 14 (t := 3) (fun b => .slice (some ⟨b, 0, none⟩) 6 6) #[.int .i64 0, .int .i64 100, .int .i64 80, .int .i64 100, .int .i64 80, .int .i64 100] hF hM (by kernel_rfl) (fun _ => by kernel_rfl) fun bb14 a w hF hM => ?_)
      refine wl (sOwn 15 (f := 31) (args := #[.slice (some ⟨bb14, 0, none⟩) 6 6]) (mk := fun v => v) (e := 30) (size := 2) (m := 3) (xs := (flat2 ([(0, 100), (80, 100), (80, 100)]))) hF hM (by kernel_rfl) rfl (by decide) (by kernel_rfl) (fun _ => by kernel_rfl) (trace_w (some ⟨bb14, 0, none⟩) [0, 100, 80, 100, 80, 100] 6 w (hM.roRow (k := 14) rfl) (by decide)) fun AA15 cc15 a w hF hM => ?_)
      refine wl (eM 74 (v := .tuple #[.int .i64 290, .int .i64 0]) hF hM (by kernel_rfl) (Yld.to (yld_call (f := 27) (args := #[.int .i64 131072, .slice AA15 3 cc15]) hF (by kernel_rfl) (fun _ => by kernel_rfl) (fun w hM => bLeast_w 131072 AA15 ([(0, 100), (80, 100), (80, 100)]) _ w (ro_of_own (hM.ok 15 _ rfl)))) (by kernel_rfl)) fun a w hF hM => ?_)
      refine sB 5 [(71, .tuple #[.int .i64 290, .int .i64 0]), (75, .int .i64 290), (76, .int .i64 0), (12, .int .i64 290), (13, .int .i64 0)] hF (by kernel_rfl) fun a hF => ?_
      refine wpList_nil ?_
      refine hK9 _ _ ?_
      refine wp_seq_k fun K10 hK10 => ?_
      refine wp_region_lit ?_
      refine wl (eM 78 (v := .tuple #[.int .i64 1, .int .i64 0]) hF hM (by kernel_rfl) (Yld.to (yld_call (f := 27) (args := #[.int .i64 131072, .slice none 0 0]) hF (by kernel_rfl) (fun _ => by kernel_rfl) (fun w hM => bLeast_w 131072 none ([] : List (Int × Int)) _ w Ro.nil)) (by kernel_rfl)) fun a w hF hM => ?_)
      refine sB 5 [(77, .tuple #[.int .i64 1, .int .i64 0]), (79, .int .i64 1), (80, .int .i64 0), (14, .int .i64 1), (15, .int .i64 0)] hF (by kernel_rfl) fun a hF => ?_
      refine wpList_nil ?_
      refine hK10 _ _ ?_
      refine wp_seq_k fun K11 hK11 => ?_
      refine wp_region_lit ?_
      refine sB 1 [(81, .int .i64 0)] hF (by kernel_rfl) fun a hF => ?_
      refine wl (eP 82 (v0 := .bool (decide (0 = 0))) (v := .bool true) hF (by kernel_rfl) (fun _ => by kernel_rfl) (bT (by omega)) fun a hF => ?_)
      refine sB 2 [(83, .bool true), (84, .int .i64 0)] hF (by kernel_rfl) fun a hF => ?_
      refine wl (eP 85 (v0 := .bool (decide (0 = 0))) (v := .bool true) hF (by kernel_rfl) (fun _ => by kernel_rfl) (bT (by omega)) fun a hF => ?_)
      refine sB 3 [(86, .bool true), (87, .bool true), (88, .int .i64 0)] hF (by kernel_rfl) fun a hF => ?_
      refine wl (eP 89 (v0 := .bool (decide (0 = 0))) (v := .bool true) hF (by kernel_rfl) (fun _ => by kernel_rfl) (bT (by omega)) fun a hF => ?_)
      refine sB 3 [(90, .bool true), (91, .bool true), (92, .int .i64 0)] hF (by kernel_rfl) fun a hF => ?_
      refine wl (eP 93 (v0 := .bool (decide (0 = 0))) (v := .bool true) hF (by kernel_rfl) (fun _ => by kernel_rfl) (bT (by omega)) fun a hF => ?_)
      refine sB 3 [(94, .bool true), (95, .bool true), (96, .int .i64 0)] hF (by kernel_rfl) fun a hF => ?_
      refine wl (eP 97 (v0 := .bool (decide (0 = 0))) (v := .bool true) hF (by kernel_rfl) (fun _ => by kernel_rfl) (bT (by omega)) fun a hF => ?_)
      refine sB 3 [(98, .bool true), (99, .bool true), (100, .int .i64 0)] hF (by kernel_rfl) fun a hF => ?_
      refine wl (eP 101 (v0 := .bool (decide (0 = 0))) (v := .bool true) hF (by kernel_rfl) (fun _ => by kernel_rfl) (bT (by omega)) fun a hF => ?_)
      refine sB 2 [(102, .bool true), (16, .bool true)] hF (by kernel_rfl) fun a hF => ?_
      refine wpList_nil ?_
      refine hK11 _ _ ?_
      refine wp_seq_k fun K12 hK12 => ?_
      refine wp_region_lit ?_
      refine sB 9 [(103, .bool true), (104, .bool true), (105, .bool true), (106, .bool true), (107, .bool true), (108, .bool true), (109, .bool true), (110, .bool true), (111, .int .i64 1000)] hF (by kernel_rfl) fun a hF => ?_
      refine wl (eP 112 (v0 := .bool (decide (1000 = 1000))) (v := .bool true) hF (by kernel_rfl) (fun _ => by kernel_rfl) (bT (by omega)) fun a hF => ?_)
      refine sB 3 [(113, .bool true), (114, .bool true), (115, .int .i64 1001)] hF (by kernel_rfl) fun a hF => ?_
      refine wl (eP 116 (v0 := .bool (decide (1001 = 1001))) (v := .bool true) hF (by kernel_rfl) (fun _ => by kernel_rfl) (bT (by omega)) fun a hF => ?_)
      refine sB 3 [(117, .bool true), (118, .bool true), (119, .int .i64 1002)] hF (by kernel_rfl) fun a hF => ?_
      refine wl (eP 120 (v0 := .bool (decide (1002 = 1002))) (v := .bool true) hF (by kernel_rfl) (fun _ => by kernel_rfl) (bT (by omega)) fun a hF => ?_)
      refine sB 2 [(121, .bool true), (122, .bool true)] hF (by kernel_rfl) fun a hF => ?_
      refine wl (eL 123 13 0 (v := .agg #[.int .i64 1024, .int .i64 1179648]) hF hM (by kernel_rfl) rfl rfl (by kernel_rfl) (by kernel_rfl) fun a w hF hM => ?_)
      refine sB 1 [(124, .agg #[.int .i64 1024, .int .i64 1179648])] hF (by kernel_rfl) fun a hF => ?_
      refine wl (eM 125 (v := .bool true) hF hM (by kernel_rfl) ((yld_eql (C := Mem _ _ _) [1024, 1179648] [1024, 1179648] hF rfl (by kernel_rfl) (by kernel_rfl) (by kernel_rfl) rfl (by kernel_rfl) (by kernel_rfl) (by kernel_rfl) rfl rfl).to (bT (by decide))) fun a w hF hM => ?_)
      refine sB 3 [(126, .bool true), (127, .bool true), (128, .int .i64 290)] hF (by kernel_rfl) fun a hF => ?_
      refine wl (eP 129 (v0 := .bool (decide (290 = 290))) (v := .bool true) hF (by kernel_rfl) (fun _ => by kernel_rfl) (bT (by omega)) fun a hF => ?_)
      refine sB 3 [(130, .bool true), (131, .bool true), (132, .int .i64 1)] hF (by kernel_rfl) fun a hF => ?_
      refine wl (eP 133 (v0 := .bool (decide (1 = 1))) (v := .bool true) hF (by kernel_rfl) (fun _ => by kernel_rfl) (bT (by omega)) fun a hF => ?_)
      refine sB 2 [(134, .bool true), (0, .bool true)] hF (by kernel_rfl) fun a hF => ?_
      refine wpList_nil ?_
      refine hK12 _ _ ?_
      refine wp_ret ?_
      refine hR0 _ _ ?_
      refine ret_of hF hM (.tmp rfl (.nil)) ?_
      exact ⟨rfl, hM.bel⟩

theorem bent_w (A : Option Addr) (l : List (Int × Int)) (c : Nat) (x y at_ : Int) (w0 : World) (hA : Ro w0 A (flat2 l)) (hn : A = none → l.length = 0 ∧ c = 0) (hm : l.length ≤ 1000) (h : 0 ≤ at_ ∧ at_ < 256) :
    Calls Try.prog 19 #[.slice A l.length c, .agg #[.int .i64 x, .int .i64 y], .int .u8 at_] w0 (RetOwn w0 (fun v => v) 30 2 (bentL l x y at_).length (flat2 (bentL l x y at_))) := by
  refine enterK 23 Try.func19 rfl rfl rfl ?_
  intro a hF Q0 hR0 hN0
  have hM := Mem.start w0
  replace hM := hM.addOld 1 hA (Nat.le_refl _)
  refine wp_seq_k fun K1 hK1 => ?_
  refine wp_region_lit ?_
  refine wl (eN 4 2 (t := 30) (fun b => .pointer (some ⟨b, 0, none⟩)) #[.int .i64 x, .int .i64 y] hF hM (by kernel_rfl) (fun _ => by kernel_rfl) fun bb1 a w hF hM => ?_)
  refine sB 1 [(6, .slice none 0 0)] hF (by kernel_rfl) fun a hF => ?_
  refine wpList_nil ?_
  refine hK1 _ _ ?_
  refine wp_seq_k fun K2 hK2 => ?_
  refine wp_region_lit ?_
  refine wl (eN 8 3 (t := 30) (fun b => .slice (some ⟨b, 0, none⟩) 0 0) #[] hF hM (by kernel_rfl) (fun _ => by kernel_rfl) fun bb2 a w hF hM => ?_)
  refine sB 1 [(9, .slice A l.length c)] hF (by kernel_rfl) fun a hF => ?_
  refine wl (sAppR0 10 3 (e := 30) (size := 2) (bytes := 16) (z := .agg #[.int .i64 0, .int .i64 0]) (m := l.length) (c := c) (news := (flat2 l)) (flat2 l) hF hM (by kernel_rfl) rfl (by kernel_rfl) (by kernel_rfl) (by kernel_rfl) rfl rfl rfl (by first | exact flat2_length _ | (rw [flat2_length]; omega)) (roK 1 rfl) (flat2_one _) (by omega) (by decide) rfl hn fun AA3 cc3 a w hF hM => ?_)
  refine sB 1 [(7, .slice AA3 l.length cc3)] hF (by kernel_rfl) fun a hF => ?_
  refine wpList_nil ?_
  refine hK2 _ _ ?_
  refine wp_seq_k fun K3 hK3 => ?_
  refine wp_seq_k fun K4 hK4 => ?_
  refine wp_region_lit ?_
  refine sB 3 [(11, .slice AA3 l.length cc3), (12, .int .i64 (l.length : Int)), (13, .bool (decide (0 < (l.length : Int))))] hF (by kernel_rfl) fun a hF => ?_
  refine wpList_nil ?_
  refine hK4 _ _ ?_
  by_cases hz1 : 0 < (l.length : Int)
  · skip
    replace hF := hF.c hF (i := 13) (v := .bool true) rfl (bT hz1)
    refine cT hF (by kernel_rfl) (by kernel_rfl) ?_
    have hmd := emod_bd (p := at_) (q := (l.length : Int)) (by omega) (by omega)
    refine rT 8 (by kernel_rfl) (by kernel_rfl) hM.drew ?_
    refine eQ 14 (v0 := .slice AA3 l.length cc3) (v := .slice AA3 l.length cc3) hF (by kernel_rfl) (fun _ => by kernel_rfl) rfl fun a hF => ?_
    refine eQ 15 (v0 := .int .u8 at_) (v := .int .u8 at_) hF (by kernel_rfl) (fun _ => by kernel_rfl) rfl fun a hF => ?_
    refine eQ 16 (v0 := .int .i64 (IntKind.i64.wrap at_)) (v := .int .i64 at_) hF (by kernel_rfl) (fun _ => by kernel_rfl) (vi (IntWalk.i64_in _ (by omega))) fun a hF => ?_
    refine eQ 17 (v0 := .slice AA3 l.length cc3) (v := .slice AA3 l.length cc3) hF (by kernel_rfl) (fun _ => by kernel_rfl) rfl fun a hF => ?_
    refine eQ 18 (v0 := .int .i64 (l.length : Int)) (v := .int .i64 (l.length : Int)) hF (by kernel_rfl) (fun _ => by kernel_rfl) rfl fun a hF => ?_
    refine eQ2 19 (v := .int .i64 (at_ % (l.length : Int))) hF (by kernel_rfl) (yld_rem at_ (l.length : Int) hF rfl (by kernel_rfl) (by kernel_rfl) (by kernel_rfl) (by omega) (Int.tmod_eq_emod_of_nonneg (by omega))) fun a hF => ?_
    have := emod_bd (p := at_) (q := (l.length : Int)) (by omega) (by omega)
    refine eQL 20 2 0 (v := .agg #[.int .i64 x, .int .i64 y]) hF (by kernel_rfl) rfl rfl (by kernel_rfl) (by kernel_rfl) fun a hF => ?_
    refine eQ2 21 (v := .pointer (some (ea AA3 (((at_ % (l.length : Int)).toNat) * 2)))) hF (by kernel_rfl) (yld_ix (kd := .i64) (e := 30) (len := l.length) (cap := cc3) (i := at_ % (l.length : Int)) (size := 2) (A := AA3) hF rfl (by kernel_rfl) (by kernel_rfl) (by kernel_rfl) (by kernel_rfl) (by kernel_rfl) (roO 3 rfl) (by omega) (by omega) (by rw [flat2_length]; omega)) fun a hF => ?_
    refine wpQuiet_nil ?_
    intro w hM
    refine wl (sStoreO2 3 (j := ((at_ % (l.length : Int)).toNat) * 2) (A := AA3) (u := .int .i64 x) (v := .int .i64 y) (flat2 ((l).set ((at_ % (l.length : Int)).toNat) (x, y))) hF hM (by kernel_rfl) rfl rfl (by kernel_rfl) (by kernel_rfl) rfl (by kernel_rfl) rfl rfl rfl (by rw [flat2_length]; omega) (flat2_set12 (k := (at_ % (l.length : Int)).toNat) _ _ (by omega) (by omega)) fun w hM => ?_)
    refine wpList_nil ?_
    refine hK3 _ _ ?_
    refine wp_seq_k fun K5 hK5 => ?_
    refine wp_region_lit ?_
    refine sB 2 [(22, .slice AA3 l.length cc3), (6, .slice AA3 l.length cc3)] hF (by kernel_rfl) fun a hF => ?_
    refine wpList_nil ?_
    refine hK5 _ _ ?_
    refine wp_ret ?_
    refine hR0 _ _ ?_
    refine ret_of hF hM (.tmp rfl (.nil)) ?_
    have hx : bentL l x y at_ = l.set ((at_ % (l.length : Int)).toNat) (x, y) := by unfold bentL; rw [if_neg (by omega)]
    have hl := bentL_length l x y at_
    have ho := hM.ok 3 _ rfl
    exact ⟨_, _, by rw [hl]; rfl, by rw [hl, hx]; exact ho, hM.bel⟩
  · skip
    replace hF := hF.c hF (i := 13) (v := .bool false) rfl (bF hz1)
    refine cF hF (by kernel_rfl) (by kernel_rfl) ?_
    refine wp_skip ?_
    refine hK3 _ _ ?_
    refine wp_seq_k fun K6 hK6 => ?_
    refine wp_region_lit ?_
    refine sB 2 [(22, .slice AA3 l.length cc3), (6, .slice AA3 l.length cc3)] hF (by kernel_rfl) fun a hF => ?_
    refine wpList_nil ?_
    refine hK6 _ _ ?_
    refine wp_ret ?_
    refine hR0 _ _ ?_
    refine ret_of hF hM (.tmp rfl (.nil)) ?_
    have hx : bentL l x y at_ = l := by unfold bentL; rw [if_pos (by omega)]
    have hl := bentL_length l x y at_
    have ho := hM.ok 3 _ rfl
    exact ⟨_, _, by rw [hl]; rfl, by rw [hl, hx]; exact ho, hM.bel⟩

end Go.Proofs.Ytecofcjlokfkhaa
