/-
  Made filters.
-/
import Derived.Test.YtogeficooemngaaFiS
namespace Go.Proofs.Ytogeficooemngaa
open Go.RowKit
set_option linter.unusedVariables false
set_option linter.unusedSimpArgs false

theorem li_pol {la : List (List Int)} (h : liB la [] = true) : liB la [[1, 200, 1000, 300, 4000]] = true := by
  obtain ⟨h1, _, h3, _⟩ := of_decide_eq_true h
  refine decide_eq_true ⟨h1, by decide, h3, fun k hk => ?_⟩
  obtain rfl : k = 0 := by simp at hk; omega
  exact (by decide : okP [[1, 200, 1000, 300, 4000]] 0)
theorem fiNew_nox (A : Option Addr) (la : List (List Int)) (ca : Nat) (A2 : Option Addr) (lq : List (List Int)) (cq_ : Nat) (w0 : World) (hA : Ro w0 A (flatR la)) (hW : WR 7 la) (hA2 : Ro w0 A2 (flatR lq)) (hW2 : WR 5 lq) {n1 n2 : Nat} (q1 : la.length = n1) (q2 : lq.length = n2) (h : liB la lq = false) : Calls Try.prog 13 #[.slice A n1 ca, .slice A2 n2 cq_] w0 (Ret w0 (.tuple #[.agg #[.slice none 0 0, .slice none 0 0, .int .i64 0, .slice none 0 0, .slice none 0 0], .int .i64 2])) := by
  subst q1 q2
  exact fiNew_no A la ca A2 lq cq_ w0 hA hW hA2 hW2 h
theorem fiNew_okx (A : Option Addr) (la : List (List Int)) (ca : Nat) (A2 : Option Addr) (lq : List (List Int)) (cq_ : Nat) (w0 : World) (hA : Ro w0 A (flatR la)) (hW : WR 7 la) (hA2 : Ro w0 A2 (flatR lq)) (hW2 : WR 5 lq) {n1 n2 : Nat} (q1 : la.length = n1) (q2 : lq.length = n2) (h : liB la lq = true) {ls : List Int} {lm : List (List Int)} {n3 n4 : Nat} (e1 : nwL la = ls) (e2 : nwM lq = lm) (e3 : la.length = n3) (e4 : lq.length = n4) : Calls Try.prog 13 #[.slice A n1 ca, .slice A2 n2 cq_] w0 (RetRo2 w0 (fun x y => .tuple #[.agg #[.slice A n1 ca, .slice A2 n2 cq_, .int .i64 (-1000), x, y], .int .i64 0]) none none n3 n4 (ls.map (Value.int .i64)) (flatR lm)) := by
  subst q1 q2
  exact fiNew_ok A la ca A2 lq cq_ w0 hA hW hA2 hW2 h e1 e2 e3 e4
end Go.Proofs.Ytogeficooemngaa
