/-
  FilterOnce returns true for every input, and each argument reads afterwards as it read before. No conditions.
-/
import Derived.Test.YtogeficooemngaaFilterOnceW
import Derived.Test.YtogeficooemngaaOpenFlat
import Derived.Test.YtogeficooemngaaOpenRec
namespace Go.Proofs.Ytogeficooemngaa.filterOnce
open Go.ChangeShapes Go.WideShapes Go.ChangeAt Go.RowKit Go.Deep Go.Joins
set_option linter.unusedVariables false

set_option maxRecDepth 100000 in
theorem lifted (os : Os) (started : os.Started) (H : Type) (enc : TypeId × Value → H) :
    ReturnsInHanded {} Try.checked os 5 .any (Rows.filterOnceSpec.pre6 enc Try.prog Try.f5 Rows.filterOnceRow.domain false) (Rows.filterOnceSpec.post enc Try.prog Try.f5 false true false false) := by
  refine returnsInHanded_of_change (C := Try.checked) Try.own started (by kernel_rfl) Try.func5
    (ChangeSpec.witness6 (enc := enc) (C := Try.checked) false ⟨#[], #[.slice none 0 0, .slice none 0 0], []⟩ 8 (by kernel_rfl) (by kernel_rfl) (by kernel_rfl) (by kernel_rfl)) ?_
  intro W base args ds gs before hval0 hW hcnd _
  have hval : ∀ (j : Nat) t v, Try.f5.params[j]? = some t → args[j]? = some v → Value.okWide Try.prog W .any base t v := hval0
  have hW' := hW
  obtain ⟨p, q, hA0, hV, rfl, hfz, hnd⟩ := hW
  have hA : DataW.TrodAll enc Try.prog W 0 (fun _ => true) true Try.f5.params.toList args.toList ds p := hA0
  rw [Try.params5] at hA hval
  obtain ⟨v0, vs0, d0, ds0, p0, q0, hargs, rfl, rfl, h0, r0⟩ := trodAll_cons hA
  obtain ⟨v1, vs1, d1, ds1, p1, q1, rfl, rfl, rfl, h1, r1⟩ := trodAll_cons r0
  obtain ⟨rfl, rfl, rfl⟩ := trodAll_nil r1
  obtain rfl : args = #[v0, v1] := by cases args; simp_all
  obtain ⟨rfl, rfl⟩ := trodVars_none hV
  have lt0 : ∀ x ∈ p0, x.block < W.heap.size := by obtain ⟨m, hm⟩ := h0; exact DataW.trod_lt m _ _ _ hm
  have lt1 : ∀ x ∈ p1, x.block < W.heap.size := by obtain ⟨m, hm⟩ := h1; exact DataW.trod_lt m _ _ _ hm
  obtain ⟨sa0, sl0, sc0, rfl⟩ := okWide_slice Try.underlying22 (hval 0 _ v0 rfl rfl)
  obtain ⟨A0, l0, c0, e0, hl0, hw0, hlc0, hc0, hb0, hnl0⟩ : ∃ (A : Option Addr) (l : List (List Int)) (c : Nat), Value.slice sa0 sl0 sc0 = .slice A l.length c ∧ Ro W A (flatR l) ∧ WR 7 l ∧ l.length ≤ c ∧ c ≤ 9223372036854775807 ∧ (∀ k, k < l.length → ∀ i, i < 7 → (Lit.int .i64 (rc l k i)).wf = true) ∧ (A = none → l.length = 0 ∧ c = 0) := by
    obtain ⟨fuel, hf⟩ := h0
    exact open_rs 7 Try.underlying22 (by kernel_rfl) (by kernel_rfl) (by decide) hf
  rw [e0] at h0 hW' ⊢
  obtain ⟨sa1, sl1, sc1, rfl⟩ := okWide_slice Try.underlying49 (hval 1 _ v1 rfl rfl)
  obtain ⟨A1, l1, c1, e1, hl1, hw1, hlc1, hc1, hb1, hnl1⟩ : ∃ (A : Option Addr) (l : List (List Int)) (c : Nat), Value.slice sa1 sl1 sc1 = .slice A l.length c ∧ Ro W A (flatK [.u16, .u8, .u8, .u8, .u8] l) ∧ WR 5 l ∧ l.length ≤ c ∧ c ≤ 9223372036854775807 ∧ (∀ k, k < l.length → ∀ i kd, ([.u16, .u8, .u8, .u8, .u8] : List IntKind)[i]? = some kd → (Lit.int kd (rc l k i)).wf = true) ∧ (A = none → l.length = 0 ∧ c = 0) := by
    obtain ⟨fuel, hf⟩ := h1
    exact open_kr (ks := [.u16, .u8, .u8, .u8, .u8]) Try.underlying49 (by kernel_rfl) (by kernel_rfl) (by decide) hf
  rw [e1] at h1 hW' ⊢
  clear hA0 hval0
  refine (filterOnce_walk A0 l0 c0 A1 l1 c1 W hl0 hw0 hl1 hw1 (FrB.of hb1) ⟨⟨hlc0, hc0⟩, hlc1, hc1⟩).mono fun e W' ⟨he, bel⟩ => ?_
  subst he
  exact ⟨_, rfl, _, _, _, [], _, [], hW', trodAll_mk1 (shut_bool Try.underlying4 _), (trodAll_cons_mk (Below.trod Try.laidOut (by kernel_rfl) (of_decide_eq_true (by kernel_rfl)) h0 bel lt0) (trodAll_cons_mk (Below.trod Try.laidOut (by kernel_rfl) (of_decide_eq_true (by kernel_rfl)) h1 bel lt1) trodAll_mk0)), rfl, bel.frame _, fun h => by cases h⟩

theorem proved : Rows.FilterOnceSaid :=
  OpenClaim.holds_of_wide 5 Try.f5 rfl rfl rfl rfl rfl rfl rfl ⟨rfl, rfl, rfl, rfl, rfl⟩ rfl rfl rfl rfl rfl (by kernel_rfl) Try.func5 (by kernel_rfl)
    (of_decide_eq_true (by kernel_rfl)) (by unfold Func.isWrapper; first | (rw [if_pos (by decide +kernel)]; kernel_rfl) | (rw [if_neg (by decide +kernel)]; exact ⟨rfl, rfl⟩))
    (fun os started H enc _ => lifted os started H enc)
#print axioms proved
end Go.Proofs.Ytogeficooemngaa.filterOnce
