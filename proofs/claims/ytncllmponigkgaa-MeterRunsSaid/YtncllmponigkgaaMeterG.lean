/-
  Conformance in the meter laws and its reference.
-/
import Derived.Test.YtncllmponigkgaaMeterF
import Derived.Test.YtncllmponigkgaaFitW
import Derived.Test.YtncllmponigkgaaMeterAllPlain
namespace Go.Proofs.Ytncllmponigkgaa
open Go.RowKit
set_option linter.unusedVariables false
set_option linter.unusedSimpArgs false

theorem lconf_w (b r : Int) (A : Option Addr) (l : List (Int × Int)) (c : Nat) (w0 : World) (hA : Ro w0 A (flat2 l)) :
    Calls Try.prog 24 #[.agg #[.int .i64 b, .int .i64 r], .slice A l.length c] w0 (Ret w0 (.bool (cfB b r l))) := by
  refine enterK 18 Try.func24 rfl rfl rfl ?_
  intro a hF Q0 hR0 hN0
  have hM := Mem.start w0
  replace hM := hM.addOld 1 hA (Nat.le_refl _)
  refine wp_seq_k fun K1 hK1 => ?_
  refine wp_region_lit ?_
  refine wl (eN 2 2 (t := 23) (fun b => .pointer (some ⟨b, 0, none⟩)) #[.int .i64 b, .int .i64 r] hF hM (by kernel_rfl) (fun _ => by kernel_rfl) fun bb1 a w hF hM => ?_)
  refine sB 1 [(4, .bool false)] hF (by kernel_rfl) fun a hF => ?_
  refine wpList_nil ?_
  refine hK1 _ _ ?_
  refine wp_seq_k fun K2 hK2 => ?_
  refine wp_region_lit ?_
  refine wl (eL 8 2 0 (v := .agg #[.int .i64 b, .int .i64 r]) hF hM (by kernel_rfl) rfl rfl (by kernel_rfl) (by kernel_rfl) fun a w hF hM => ?_)
  refine sB 1 [(9, .slice A l.length c)] hF (by kernel_rfl) fun a hF => ?_
  refine wl (eM 10 (v := .tuple #[.bool (cfB b r l), .int .i64 (ckE b r l)]) hF hM (by kernel_rfl) (yld_call (f := 35) (args := #[.agg #[.int .i64 b, .int .i64 r], .slice A l.length c]) hF (by kernel_rfl) (fun _ => by kernel_rfl) (fun w hM => conforms_w b r A l c w (hM.ok 1 _ rfl))) fun a w hF hM => ?_)
  refine sB 5 [(7, .tuple #[.bool (cfB b r l), .int .i64 (ckE b r l)]), (11, .bool (cfB b r l)), (12, .int .i64 (ckE b r l)), (5, .bool (cfB b r l)), (6, .int .i64 (ckE b r l))] hF (by kernel_rfl) fun a hF => ?_
  refine wpList_nil ?_
  refine hK2 _ _ ?_
  refine wp_seq_k fun K3 hK3 => ?_
  cases hz1 : (cfB b r l)
  · skip
    replace hF := hF.c hF (i := 5) (v := .bool false) rfl (congrArg Value.bool hz1)
    replace hF := hF.c hF (i := 11) (v := .bool false) rfl (congrArg Value.bool hz1)
    refine wp_region_lit ?_
    refine sB 6 [(13, .bool false), (14, .bool false), (15, undef), (16, undef), (17, .bool false), (4, .bool false)] hF (by kernel_rfl) fun a hF => ?_
    refine wpList_nil ?_
    refine hK3 _ _ ?_
    refine wp_ret ?_
    refine hR0 _ _ ?_
    refine ret_of hF hM (.tmp rfl (.nil)) ?_
    exact ⟨ret_bool (cfB_false hz1), hM.bel⟩
  · skip
    replace hF := hF.c hF (i := 5) (v := .bool true) rfl (congrArg Value.bool hz1)
    replace hF := hF.c hF (i := 11) (v := .bool true) rfl (congrArg Value.bool hz1)
    refine wp_region_lit ?_
    refine sB 6 [(13, .bool true), (14, .bool true), (15, .int .i64 (ckE b r l)), (16, .bool (decide (ckE b r l = 0))), (17, .bool (decide (ckE b r l = 0))), (4, .bool (decide (ckE b r l = 0)))] hF (by kernel_rfl) fun a hF => ?_
    refine wpList_nil ?_
    refine hK3 _ _ ?_
    refine wp_ret ?_
    refine hR0 _ _ ?_
    refine ret_of hF hM (.tmp rfl (.nil)) ?_
    exact ⟨ret_bool (by first | exact cfB_dec (by assumption) | simp_all), hM.bel⟩

theorem fit32_w (b r : Int) (A : Option Addr) (l : List (Int × Int)) (c : Nat) (x y : Int) (w0 : World) (hA : Ro w0 A (flat2 l)) (hn : A = none → l.length = 0 ∧ c = 0) (hl : l.length ≤ 1000) (hck : ckE b r (l ++ [(x, y)]) = 0) :
    Calls Try.prog 34 #[.agg #[.int .i64 b, .int .i64 r], .slice A l.length c, .agg #[.int .i64 x, .int .i64 y]] w0 (Ret w0 (.bool (cfB b r (l ++ [(x, y)])))) := by
  refine enterK 15 Try.func34 rfl rfl rfl ?_
  intro a hF Q0 hR0 hN0
  have hM := Mem.start w0
  replace hM := hM.addOld 1 hA (Nat.le_refl _)
  refine wp_seq_k fun K1 hK1 => ?_
  refine wp_region_lit ?_
  refine wl (eN 3 2 (t := 23) (fun b => .pointer (some ⟨b, 0, none⟩)) #[.int .i64 b, .int .i64 r] hF hM (by kernel_rfl) (fun _ => by kernel_rfl) fun bb1 a w hF hM => ?_)
  refine wl (eN 5 3 (t := 33) (fun b => .pointer (some ⟨b, 0, none⟩)) #[.int .i64 x, .int .i64 y] hF hM (by kernel_rfl) (fun _ => by kernel_rfl) fun bb2 a w hF hM => ?_)
  refine sB 1 [(6, .bool false)] hF (by kernel_rfl) fun a hF => ?_
  refine wpList_nil ?_
  refine hK1 _ _ ?_
  refine wp_seq_k fun K2 hK2 => ?_
  refine rF (by kernel_rfl) (by kernel_rfl) (fun S a w => ∃ bb3 : Nat, ∃ AA4 : Option Addr, ∃ cc4 : Nat, ∃ bb5 : Nat, ∃ AA6 : Option Addr, ∃ cc6 : Nat, Fr 15 [(1, some (.slice A l.length c)), (3, some (.pointer (some ⟨bb1, 0, none⟩))), (5, some (.pointer (some ⟨bb2, 0, none⟩))), (6, (cond (S.getD 8 false) (some (.bool (cfB b r (l ++ [(x, y)])))) (some (.bool false)))), (7, (cond (S.getD 0 false) (some (.agg #[.int .i64 b, .int .i64 r])) none)), (8, (cond (S.getD 1 false) (some (.slice (some ⟨bb3, 0, none⟩) 0 0)) none)), (9, (cond (S.getD 2 false) (some (.slice A l.length c)) none)), (10, (cond (S.getD 3 false) (some (.slice AA4 l.length cc4)) none)), (11, (cond (S.getD 4 false) (some (.agg #[.int .i64 x, .int .i64 y])) none)), (12, (cond (S.getD 5 false) (some (.slice (some ⟨bb5, 0, none⟩) 1 1)) none)), (13, (cond (S.getD 6 false) (some (.slice AA6 (l.length + 1) cc6)) none)), (14, (cond (S.getD 7 false) (some (.bool (cfB b r (l ++ [(x, y)])))) none))] a ∧ Mem w0.heap.size w0 [(1, some (.ro A (flat2 l))), (2, some (.row bb1 23 #[.int .i64 b, .int .i64 r])), (3, some (.row bb2 33 #[.int .i64 x, .int .i64 y])), (4, (cond (S.getD 6 false) (some (.own (.slice AA6 (l.length + 1) cc6) 33 2 (l.length + 1) (flat2 (l ++ [(x, y)])))) (cond (S.getD 3 false) (some (.own (.slice AA4 l.length cc4) 33 2 l.length (flat2 l))) (cond (S.getD 1 false) (some (.row bb3 33 #[])) none)))), (5, (cond (S.getD 5 false) (some (.row bb5 33 #[.int .i64 x, .int .i64 y])) none))] w) ?_ ?_ ?_
  · exact ⟨0, none, 0, 0, none, 0, (((((((((((((Fr.nil hF).co hF (i := 14) (by kernel_rfl)).co hF (i := 13) (by kernel_rfl)).co hF (i := 12) (by kernel_rfl)).co hF (i := 11) (by kernel_rfl)).co hF (i := 10) (by kernel_rfl)).co hF (i := 9) (by kernel_rfl)).co hF (i := 8) (by kernel_rfl)).co hF (i := 7) (by kernel_rfl)).co hF (i := 6) (by kernel_rfl)).co hF (i := 5) (by kernel_rfl)).co hF (i := 3) (by kernel_rfl)).co hF (i := 1) (by kernel_rfl)), hM.drew.sub (((((Sub.nil.co (k := 5) (by kernel_rfl)).co (k := 4) (by kernel_rfl)).co (k := 3) (by kernel_rfl)).co (k := 2) (by kernel_rfl)).co (k := 1) (by kernel_rfl))⟩
  · refine stC ?_ (stC ?_ (stC ?_ (stC ?_ (stC ?_ (stC ?_ (stC ?_ (stC ?_ (stC ?_ (trivial)))))))))
    · intro s0 s1 s2 s3 s4 s5 s6 s7 s8 hc hi hp a w hS
      obtain rfl : s0 = false := hi
      obtain ⟨bb3, AA4, cc4, bb5, AA6, cc6, hF, hM⟩ := hS
      refine eL 7 2 0 (v := .agg #[.int .i64 b, .int .i64 r]) hF hM (by kernel_rfl) rfl rfl (by kernel_rfl) (by kernel_rfl) fun a w hF hM => ?_
      exact ⟨bb3, AA4, cc4, bb5, AA6, cc6, ((hF.repl 4 (by kernel_rfl)).cast (by kernel_rfl)), (hM.cast (by kernel_rfl))⟩
    · intro s0 s1 s2 s3 s4 s5 s6 s7 s8 hc hi hp a w hS
      obtain rfl : s1 = false := hi
      obtain rfl : s3 = false := hc.f 3 1 (by kernel_rfl) rfl
      obtain rfl : s6 = false := hc.f 6 3 (by kernel_rfl) rfl
      obtain ⟨bb3, AA4, cc4, bb5, AA6, cc6, hF, hM⟩ := hS
      refine eN 8 4 (t := 33) (fun b => .slice (some ⟨b, 0, none⟩) 0 0) #[] hF hM (by kernel_rfl) (fun _ => by kernel_rfl) fun bb3 a w hF hM => ?_
      exact ⟨bb3, AA4, cc4, bb5, AA6, cc6, ((hF.repl 5 (by kernel_rfl)).cast (by kernel_rfl)), ((hM.repl 3 (by kernel_rfl)).cast (by kernel_rfl))⟩
    · intro s0 s1 s2 s3 s4 s5 s6 s7 s8 hc hi hp a w hS
      obtain rfl : s2 = false := hi
      obtain ⟨bb3, AA4, cc4, bb5, AA6, cc6, hF, hM⟩ := hS
      refine eP 9 (v0 := .slice A l.length c) (v := .slice A l.length c) hF (by kernel_rfl) (fun _ => by kernel_rfl) rfl fun a hF => ?_
      exact ⟨bb3, AA4, cc4, bb5, AA6, cc6, ((hF.repl 6 (by kernel_rfl)).cast (by kernel_rfl)), (hM.cast (by kernel_rfl))⟩
    · intro s0 s1 s2 s3 s4 s5 s6 s7 s8 hc hi hp a w hS
      obtain rfl : s3 = false := hi
      obtain rfl : s2 = true := hp 2 (by kernel_rfl)
      obtain rfl : s1 = true := hp 1 (by kernel_rfl)
      obtain rfl : s6 = false := hc.f 6 3 (by kernel_rfl) rfl
      obtain ⟨bb3, AA4, cc4, bb5, AA6, cc6, hF, hM⟩ := hS
      refine sAppR0 10 4 (e := 33) (size := 2) (bytes := 16) (z := .agg #[.int .i64 0, .int .i64 0]) (m := l.length) (c := c) (news := (flat2 l)) (flat2 l) hF hM (by kernel_rfl) rfl (by kernel_rfl) (by kernel_rfl) (by kernel_rfl) rfl rfl rfl (by first | exact flat2_length _ | (rw [flat2_length]; omega)) (roK 1 rfl) (flat2_one _) (by omega) (by decide) rfl hn fun AA4 cc4 a w hF hM => ?_
      exact ⟨bb3, AA4, cc4, bb5, AA6, cc6, ((hF.repl 7 (by kernel_rfl)).cast (by kernel_rfl)), ((hM.repl 3 (by kernel_rfl)).cast (by kernel_rfl))⟩
    · intro s0 s1 s2 s3 s4 s5 s6 s7 s8 hc hi hp a w hS
      obtain rfl : s4 = false := hi
      obtain ⟨bb3, AA4, cc4, bb5, AA6, cc6, hF, hM⟩ := hS
      refine eL 11 3 0 (v := .agg #[.int .i64 x, .int .i64 y]) hF hM (by kernel_rfl) rfl rfl (by kernel_rfl) (by kernel_rfl) fun a w hF hM => ?_
      exact ⟨bb3, AA4, cc4, bb5, AA6, cc6, ((hF.repl 8 (by kernel_rfl)).cast (by kernel_rfl)), (hM.cast (by kernel_rfl))⟩
    · intro s0 s1 s2 s3 s4 s5 s6 s7 s8 hc hi hp a w hS
      obtain rfl : s5 = false := hi
      obtain rfl : s4 = true := hp 4 (by kernel_rfl)
      obtain ⟨bb3, AA4, cc4, bb5, AA6, cc6, hF, hM⟩ := hS
      refine eN 12 5 (t := 33) (fun b => .slice (some ⟨b, 0, none⟩) 1 1) #[.int .i64 x, .int .i64 y] hF hM (by kernel_rfl) (fun _ => by kernel_rfl) fun bb5 a w hF hM => ?_
      exact ⟨bb3, AA4, cc4, bb5, AA6, cc6, ((hF.repl 9 (by kernel_rfl)).cast (by kernel_rfl)), ((hM.repl 4 (by kernel_rfl)).cast (by kernel_rfl))⟩
    · intro s0 s1 s2 s3 s4 s5 s6 s7 s8 hc hi hp a w hS
      obtain rfl : s6 = false := hi
      obtain rfl : s5 = true := hp 5 (by kernel_rfl)
      obtain rfl : s3 = true := hp 3 (by kernel_rfl)
      obtain rfl : s1 = true := hc 3 1 (by kernel_rfl) rfl
      obtain ⟨bb3, AA4, cc4, bb5, AA6, cc6, hF, hM⟩ := hS
      refine sApp 13 4 (e := 33) (size := 2) (bytes := 16) (z := .agg #[.int .i64 0, .int .i64 0]) (m := 1) (c := 1) (l := l.length) (cap := cc4) (A := AA4) (news := [.int .i64 x, .int .i64 y]) (flat2 (l ++ [(x, y)])) hF hM (by kernel_rfl) rfl (by kernel_rfl) (by kernel_rfl) (by kernel_rfl) rfl rfl rfl rfl (roR 5 rfl) (by simp [Value.oneCell']) (by omega) (by decide) (flat2_snoc' _ _ _) fun AA6 cc6 a w hF hM => ?_
      exact ⟨bb3, AA4, cc4, bb5, AA6, cc6, ((hF.repl 10 (by kernel_rfl)).cast (by kernel_rfl)), ((hM.repl 3 (by kernel_rfl)).cast (by kernel_rfl))⟩
    · intro s0 s1 s2 s3 s4 s5 s6 s7 s8 hc hi hp a w hS
      obtain rfl : s7 = false := hi
      obtain rfl : s6 = true := hp 6 (by kernel_rfl)
      obtain rfl : s3 = true := hc 6 3 (by kernel_rfl) rfl
      obtain rfl : s1 = true := hc 3 1 (by kernel_rfl) rfl
      obtain rfl : s0 = true := hp 0 (by kernel_rfl)
      obtain ⟨bb3, AA4, cc4, bb5, AA6, cc6, hF, hM⟩ := hS
      refine eM 14 (v := .bool (cfB b r (l ++ [(x, y)]))) hF hM (by kernel_rfl) (yld_call (f := 36) (args := #[.agg #[.int .i64 b, .int .i64 r], .slice AA6 (l.length + 1) cc6]) hF (by kernel_rfl) (fun _ => by kernel_rfl) (fun w hM => (by rw [show l.length + 1 = (l ++ [(x, y)]).length from by first | omega | (simp; done) | (simp; omega)]; exact fits_w b r AA6 (l ++ [(x, y)]) cc6 w (ro_of_own (hM.ok 4 _ rfl)) hck))) fun a w hF hM => ?_
      exact ⟨bb3, AA4, cc4, bb5, AA6, cc6, ((hF.repl 11 (by kernel_rfl)).cast (by kernel_rfl)), (hM.cast (by kernel_rfl))⟩
    · intro s0 s1 s2 s3 s4 s5 s6 s7 s8 hc hi hp a w hS
      obtain rfl : s8 = false := hi
      obtain rfl : s7 = true := hp 7 (by kernel_rfl)
      obtain ⟨bb3, AA4, cc4, bb5, AA6, cc6, hF, hM⟩ := hS
      refine eP 6 (v0 := .bool (cfB b r (l ++ [(x, y)]))) (v := .bool (cfB b r (l ++ [(x, y)]))) hF (by kernel_rfl) (fun _ => by kernel_rfl) rfl fun a hF => ?_
      exact ⟨bb3, AA4, cc4, bb5, AA6, cc6, ((hF.repl 3 (by kernel_rfl)).cast (by kernel_rfl)), (hM.cast (by kernel_rfl))⟩
  · intro a w hS
    obtain ⟨bb3, AA4, cc4, bb5, AA6, cc6, hF, hM⟩ := hS
    replace hF : Fr 15 [(1, some (.slice A l.length c)), (3, some (.pointer (some ⟨bb1, 0, none⟩))), (5, some (.pointer (some ⟨bb2, 0, none⟩))), (6, some (.bool (cfB b r (l ++ [(x, y)])))), (7, some (.agg #[.int .i64 b, .int .i64 r])), (8, some (.slice (some ⟨bb3, 0, none⟩) 0 0)), (9, some (.slice A l.length c)), (10, some (.slice AA4 l.length cc4)), (11, some (.agg #[.int .i64 x, .int .i64 y])), (12, some (.slice (some ⟨bb5, 0, none⟩) 1 1)), (13, some (.slice AA6 (l.length + 1) cc6)), (14, some (.bool (cfB b r (l ++ [(x, y)]))))] a := hF.cast (by kernel_rfl)
    replace hM : Mem w0.heap.size w0 [(1, some (.ro A (flat2 l))), (2, some (.row bb1 23 #[.int .i64 b, .int .i64 r])), (3, some (.row bb2 33 #[.int .i64 x, .int .i64 y])), (4, some (.own (.slice AA6 (l.length + 1) cc6) 33 2 (l.length + 1) (flat2 (l ++ [(x, y)])))), (5, some (.row bb5 33 #[.int .i64 x, .int .i64 y]))] w := hM.cast (by kernel_rfl)
    refine hK2 _ _ ?_
    refine wp_ret ?_
    refine hR0 _ _ ?_
    refine ret_of hF hM (.tmp rfl (.nil)) ?_
    exact ⟨rfl, hM.bel⟩

end Go.Proofs.Ytncllmponigkgaa
