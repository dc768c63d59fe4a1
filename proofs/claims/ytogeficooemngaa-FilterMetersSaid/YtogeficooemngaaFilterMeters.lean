/-
  FilterMeters returns true for every input, and each argument reads afterwards as it read before. No conditions.
-/
import Derived.Test.YtogeficooemngaaFilterMetersW
import Derived.Test.YtogeficooemngaaOpenFlat
import Derived.Test.YtogeficooemngaaOpenRec
namespace Go.Proofs.Ytogeficooemngaa.filterMeters
open Go.ChangeShapes Go.WideShapes Go.ChangeAt Go.RowKit Go.Deep Go.Joins
set_option linter.unusedVariables false

set_option maxRecDepth 100000 in
theorem lifted (os : Os) (started : os.Started) (H : Type) (enc : TypeId × Value → H) :
    ReturnsInHanded {} Try.checked os 8 .any (Rows.filterMetersSpec.pre6 enc Try.prog Try.f8 Rows.filterMetersRow.domain false) (Rows.filterMetersSpec.post enc Try.prog Try.f8 false true false false) := by
  refine returnsInHanded_of_change (C := Try.checked) Try.own started (by kernel_rfl) Try.func8
    (ChangeSpec.witness6 (enc := enc) (C := Try.checked) false ⟨#[], #[.slice none 0 0, .int .u16 0, .int .u16 0, .int .u16 0], []⟩ 8 (by kernel_rfl) (by kernel_rfl) (by kernel_rfl) (by kernel_rfl)) ?_
  intro W base args ds gs before hval0 hW hcnd _
  have hval : ∀ (j : Nat) t v, Try.f8.params[j]? = some t → args[j]? = some v → Value.okWide Try.prog W .any base t v := hval0
  have hW' := hW
  obtain ⟨p, q, hA0, hV, rfl, hfz, hnd⟩ := hW
  have hA : DataW.TrodAll enc Try.prog W 0 (fun _ => true) true Try.f8.params.toList args.toList ds p := hA0
  rw [Try.params8] at hA hval
  obtain ⟨v0, vs0, d0, ds0, p0, q0, hargs, rfl, rfl, h0, r0⟩ := trodAll_cons hA
  obtain ⟨v1, vs1, d1, ds1, p1, q1, rfl, rfl, rfl, h1, r1⟩ := trodAll_cons r0
  obtain ⟨v2, vs2, d2, ds2, p2, q2, rfl, rfl, rfl, h2, r2⟩ := trodAll_cons r1
  obtain ⟨v3, vs3, d3, ds3, p3, q3, rfl, rfl, rfl, h3, r3⟩ := trodAll_cons r2
  obtain ⟨rfl, rfl, rfl⟩ := trodAll_nil r3
  obtain rfl : args = #[v0, v1, v2, v3] := by cases args; simp_all
  obtain ⟨rfl, rfl⟩ := trodVars_none hV
  have lt0 : ∀ x ∈ p0, x.block < W.heap.size := by obtain ⟨m, hm⟩ := h0; exact DataW.trod_lt m _ _ _ hm
  have lt1 : ∀ x ∈ p1, x.block < W.heap.size := by obtain ⟨m, hm⟩ := h1; exact DataW.trod_lt m _ _ _ hm
  have lt2 : ∀ x ∈ p2, x.block < W.heap.size := by obtain ⟨m, hm⟩ := h2; exact DataW.trod_lt m _ _ _ hm
  have lt3 : ∀ x ∈ p3, x.block < W.heap.size := by obtain ⟨m, hm⟩ := h3; exact DataW.trod_lt m _ _ _ hm
  obtain ⟨sa0, sl0, sc0, rfl⟩ := okWide_slice Try.underlying49 (hval 0 _ v0 rfl rfl)
  obtain ⟨A0, l0, c0, e0, hl0, hw0, hlc0, hc0, hb0, hnl0⟩ : ∃ (A : Option Addr) (l : List (List Int)) (c : Nat), Value.slice sa0 sl0 sc0 = .slice A l.length c ∧ Ro W A (flatK [.u16, .u8, .u8, .u8, .u8] l) ∧ WR 5 l ∧ l.length ≤ c ∧ c ≤ 9223372036854775807 ∧ (∀ k, k < l.length → ∀ i kd, ([.u16, .u8, .u8, .u8, .u8] : List IntKind)[i]? = some kd → (Lit.int kd (rc l k i)).wf = true) ∧ (A = none → l.length = 0 ∧ c = 0) := by
    obtain ⟨fuel, hf⟩ := h0
    exact open_kr (ks := [.u16, .u8, .u8, .u8, .u8]) Try.underlying49 (by kernel_rfl) (by kernel_rfl) (by decide) hf
  rw [e0] at h0 hW' ⊢
  obtain ⟨cx, rfl, wf_cx⟩ : ∃ x, v1 = .int .u16 x ∧ (Lit.int .u16 x).wf = true := by
    obtain ⟨x, hx, _, _, wx⟩ := open_int Try.underlying52 (hval 1 _ v1 rfl rfl) h1
    exact ⟨x, hx, wx⟩
  have bd_cx := bounds_u16 wf_cx
  obtain ⟨px, rfl, wf_px⟩ : ∃ x, v2 = .int .u16 x ∧ (Lit.int .u16 x).wf = true := by
    obtain ⟨x, hx, _, _, wx⟩ := open_int Try.underlying52 (hval 2 _ v2 rfl rfl) h2
    exact ⟨x, hx, wx⟩
  have bd_px := bounds_u16 wf_px
  obtain ⟨rx, rfl, wf_rx⟩ : ∃ x, v3 = .int .u16 x ∧ (Lit.int .u16 x).wf = true := by
    obtain ⟨x, hx, _, _, wx⟩ := open_int Try.underlying52 (hval 3 _ v3 rfl rfl) h3
    exact ⟨x, hx, wx⟩
  have bd_rx := bounds_u16 wf_rx
  clear hA0 hval0
  refine (filterMeters_walk A0 l0 c0 cx px rx W hl0 hw0 (FrB.of hb0) ⟨hlc0, hc0⟩ ⟨by omega, by omega, by omega, by omega, by omega, by omega⟩).mono fun e W' ⟨he, bel⟩ => ?_
  subst he
  exact ⟨_, rfl, _, _, _, [], _, [], hW', trodAll_mk1 (shut_bool Try.underlying4 _), (trodAll_cons_mk (Below.trod Try.laidOut (by kernel_rfl) (of_decide_eq_true (by kernel_rfl)) h0 bel lt0) (trodAll_cons_mk (Below.trod Try.laidOut (by kernel_rfl) (of_decide_eq_true (by kernel_rfl)) h1 bel lt1) (trodAll_cons_mk (Below.trod Try.laidOut (by kernel_rfl) (of_decide_eq_true (by kernel_rfl)) h2 bel lt2) (trodAll_cons_mk (Below.trod Try.laidOut (by kernel_rfl) (of_decide_eq_true (by kernel_rfl)) h3 bel lt3) trodAll_mk0)))), rfl, bel.frame _, fun h => by cases h⟩

theorem proved : Rows.FilterMetersSaid :=
  OpenClaim.holds_of_wide 8 Try.f8 rfl rfl rfl rfl rfl rfl rfl ⟨rfl, rfl, rfl, rfl, rfl⟩ rfl rfl rfl rfl rfl (by kernel_rfl) Try.func8 (by kernel_rfl)
    (of_decide_eq_true (by kernel_rfl)) (by unfold Func.isWrapper; first | (rw [if_pos (by decide +kernel)]; kernel_rfl) | (rw [if_neg (by decide +kernel)]; exact ⟨rfl, rfl⟩))
    (fun os started H enc _ => lifted os started H enc)
#print axioms proved
end Go.Proofs.Ytogeficooemngaa.filterMeters
