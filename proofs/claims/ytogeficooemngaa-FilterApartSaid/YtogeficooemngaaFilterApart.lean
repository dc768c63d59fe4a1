/-
  FilterApart returns true for every input, and each argument reads afterwards as it read before. No conditions.
-/
import Derived.Test.YtogeficooemngaaFilterApartW
import Derived.Test.YtogeficooemngaaOpenFlat
import Derived.Test.YtogeficooemngaaOpenRec
namespace Go.Proofs.Ytogeficooemngaa.filterApart
open Go.ChangeShapes Go.WideShapes Go.ChangeAt Go.RowKit Go.Deep Go.Joins
set_option linter.unusedVariables false

set_option maxRecDepth 100000 in
theorem lifted (os : Os) (started : os.Started) (H : Type) (enc : TypeId × Value → H) :
    ReturnsInHanded {} Try.checked os 6 .any (Rows.filterApartSpec.pre6 enc Try.prog Try.f6 Rows.filterApartRow.domain false) (Rows.filterApartSpec.post enc Try.prog Try.f6 false true false false) := by
  refine returnsInHanded_of_change (C := Try.checked) Try.own started (by kernel_rfl) Try.func6
    (ChangeSpec.witness6 (enc := enc) (C := Try.checked) false ⟨#[], #[.slice none 0 0, .slice none 0 0, .slice none 0 0, .agg #[.int .u16 0, .int .u8 0, .int .u8 0, .int .u8 0, .int .u8 0]], []⟩ 8 (by kernel_rfl) (by kernel_rfl) (by kernel_rfl) (by kernel_rfl)) ?_
  intro W base args ds gs before hval0 hW hcnd _
  have hval : ∀ (j : Nat) t v, Try.f6.params[j]? = some t → args[j]? = some v → Value.okWide Try.prog W .any base t v := hval0
  have hW' := hW
  obtain ⟨p, q, hA0, hV, rfl, hfz, hnd⟩ := hW
  have hA : DataW.TrodAll enc Try.prog W 0 (fun _ => true) true Try.f6.params.toList args.toList ds p := hA0
  rw [Try.params6] at hA hval
  obtain ⟨v0, vs0, d0, ds0, p0, q0, hargs, rfl, rfl, h0, r0⟩ := trodAll_cons hA
  obtain ⟨v1, vs1, d1, ds1, p1, q1, rfl, rfl, rfl, h1, r1⟩ := trodAll_cons r0
  obtain ⟨v2, vs2, d2, ds2, p2, q2, rfl, rfl, rfl, h2, r2⟩ := trodAll_cons r1
  obtain ⟨v3, vs3, d3, ds3, p3, q3, rfl, rfl, rfl, h3, r3⟩ := trodAll_cons r2
  obtain ⟨rfl, rfl, rfl⟩ := trodAll_nil r3
  obtain rfl : args = #[v0, v1, v2, v3] := by cases args; simp_all
  obtain ⟨rfl, rfl⟩ := trodVars_none hV
  have lt0 : ∀ x ∈ p0, x.block < W.heap.size := by obtain ⟨m, hm⟩ := h0; exact DataW.trod_lt m _ _ _ hm
  have lt1 : ∀ x ∈ p1, x.block < W.heap.size := by obtain ⟨m, hm⟩ := h1; exact DataW.trod_lt m _ _ _ hm
  have lt2 : ∀ x ∈ p2, x.block < W.heap.size := by obtain ⟨m, hm⟩ := h2; exact DataW.trod_lt m _ _ _ hm
  have lt3 : ∀ x ∈ p3, x.block < W.heap.size := by obtain ⟨m, hm⟩ := h3; exact DataW.trod_lt m _ _ _ hm
  obtain ⟨sa0, sl0, sc0, rfl⟩ := okWide_slice Try.underlying22 (hval 0 _ v0 rfl rfl)
  obtain ⟨A0, l0, c0, e0, hl0, hw0, hlc0, hc0, hb0, hnl0⟩ : ∃ (A : Option Addr) (l : List (List Int)) (c : Nat), Value.slice sa0 sl0 sc0 = .slice A l.length c ∧ Ro W A (flatR l) ∧ WR 7 l ∧ l.length ≤ c ∧ c ≤ 9223372036854775807 ∧ (∀ k, k < l.length → ∀ i, i < 7 → (Lit.int .i64 (rc l k i)).wf = true) ∧ (A = none → l.length = 0 ∧ c = 0) := by
    obtain ⟨fuel, hf⟩ := h0
    exact open_rs 7 Try.underlying22 (by kernel_rfl) (by kernel_rfl) (by decide) hf
  rw [e0] at h0 hW' ⊢
  obtain ⟨sa1, sl1, sc1, rfl⟩ := okWide_slice Try.underlying49 (hval 1 _ v1 rfl rfl)
  obtain ⟨A1, l1, c1, e1, hl1, hw1, hlc1, hc1, hb1, hnl1⟩ : ∃ (A : Option Addr) (l : List (List Int)) (c : Nat), Value.slice sa1 sl1 sc1 = .slice A l.length c ∧ Ro W A (flatK [.u16, .u8, .u8, .u8, .u8] l) ∧ WR 5 l ∧ l.length ≤ c ∧ c ≤ 9223372036854775807 ∧ (∀ k, k < l.length → ∀ i kd, ([.u16, .u8, .u8, .u8, .u8] : List IntKind)[i]? = some kd → (Lit.int kd (rc l k i)).wf = true) ∧ (A = none → l.length = 0 ∧ c = 0) := by
    obtain ⟨fuel, hf⟩ := h1
    exact open_kr (ks := [.u16, .u8, .u8, .u8, .u8]) Try.underlying49 (by kernel_rfl) (by kernel_rfl) (by decide) hf
  rw [e1] at h1 hW' ⊢
  obtain ⟨sa2, sl2, sc2, rfl⟩ := okWide_slice Try.underlying49 (hval 2 _ v2 rfl rfl)
  obtain ⟨A2, l2, c2, e2, hl2, hw2, hlc2, hc2, hb2, hnl2⟩ : ∃ (A : Option Addr) (l : List (List Int)) (c : Nat), Value.slice sa2 sl2 sc2 = .slice A l.length c ∧ Ro W A (flatK [.u16, .u8, .u8, .u8, .u8] l) ∧ WR 5 l ∧ l.length ≤ c ∧ c ≤ 9223372036854775807 ∧ (∀ k, k < l.length → ∀ i kd, ([.u16, .u8, .u8, .u8, .u8] : List IntKind)[i]? = some kd → (Lit.int kd (rc l k i)).wf = true) ∧ (A = none → l.length = 0 ∧ c = 0) := by
    obtain ⟨fuel, hf⟩ := h2
    exact open_kr (ks := [.u16, .u8, .u8, .u8, .u8]) Try.underlying49 (by kernel_rfl) (by kernel_rfl) (by decide) hf
  rw [e2] at h2 hW' ⊢
  obtain ⟨cs3, rfl, ai3⟩ := open_flat (P := Try.prog) [.u16, .u8, .u8, .u8, .u8] (by kernel_rfl) (by kernel_rfl) (hval 3 _ v3 rfl rfl) h3
  obtain ⟨y0, rr3_0, rfl, wf_y0, ai3⟩ := ai3.cons
  obtain ⟨y1, rr3_1, rfl, wf_y1, ai3⟩ := ai3.cons
  obtain ⟨y2, rr3_2, rfl, wf_y2, ai3⟩ := ai3.cons
  obtain ⟨y3, rr3_3, rfl, wf_y3, ai3⟩ := ai3.cons
  obtain ⟨y4, rr3_4, rfl, wf_y4, ai3⟩ := ai3.cons
  obtain rfl := ai3.nil
  have bd_y0 := bounds_u16 wf_y0
  have bd_y1 := bounds_u8 wf_y1
  have bd_y2 := bounds_u8 wf_y2
  have bd_y3 := bounds_u8 wf_y3
  have bd_y4 := bounds_u8 wf_y4
  clear hA0 hval0
  refine (filterApart_walk A0 l0 c0 A1 l1 c1 A2 l2 c2 y0 y1 y2 y3 y4 W hl0 hw0 hl1 hw1 (FrB.of hb1) hl2 hw2 (FrB.of hb2) ⟨⟨hlc0, hc0⟩, ⟨hlc1, hc1⟩, hlc2, hc2⟩ ⟨bd_y0, bd_y1, bd_y2, bd_y3, bd_y4⟩).mono fun e W' ⟨he, bel⟩ => ?_
  subst he
  exact ⟨_, rfl, _, _, _, [], _, [], hW', trodAll_mk1 (shut_bool Try.underlying4 _), (trodAll_cons_mk (Below.trod Try.laidOut (by kernel_rfl) (of_decide_eq_true (by kernel_rfl)) h0 bel lt0) (trodAll_cons_mk (Below.trod Try.laidOut (by kernel_rfl) (of_decide_eq_true (by kernel_rfl)) h1 bel lt1) (trodAll_cons_mk (Below.trod Try.laidOut (by kernel_rfl) (of_decide_eq_true (by kernel_rfl)) h2 bel lt2) (trodAll_cons_mk (Below.trod Try.laidOut (by kernel_rfl) (of_decide_eq_true (by kernel_rfl)) h3 bel lt3) trodAll_mk0)))), rfl, bel.frame _, fun h => by cases h⟩

theorem proved : Rows.FilterApartSaid :=
  OpenClaim.holds_of_wide 6 Try.f6 rfl rfl rfl rfl rfl rfl rfl ⟨rfl, rfl, rfl, rfl, rfl⟩ rfl rfl rfl rfl rfl (by kernel_rfl) Try.func6 (by kernel_rfl)
    (of_decide_eq_true (by kernel_rfl)) (by unfold Func.isWrapper; first | (rw [if_pos (by decide +kernel)]; kernel_rfl) | (rw [if_neg (by decide +kernel)]; exact ⟨rfl, rfl⟩))
    (fun os started H enc _ => lifted os started H enc)
#print axioms proved
end Go.Proofs.Ytogeficooemngaa.filterApart
