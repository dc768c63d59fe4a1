/-
  FilterPasses returns true for every input, and each argument reads afterwards as it read before. No conditions.
-/
import Derived.Test.YtogeficooemngaaFilterPassesW
import Derived.Test.YtogeficooemngaaOpenFlat
import Derived.Test.YtogeficooemngaaOpenRec
namespace Go.Proofs.Ytogeficooemngaa.filterPasses
open Go.ChangeShapes Go.WideShapes Go.ChangeAt Go.RowKit Go.Deep Go.Joins
set_option linter.unusedVariables false

set_option maxRecDepth 100000 in
theorem lifted (os : Os) (started : os.Started) (H : Type) (enc : TypeId × Value → H) :
    ReturnsInHanded {} Try.checked os 4 .any (Rows.filterPassesSpec.pre6 enc Try.prog Try.f4 Rows.filterPassesRow.domain false) (Rows.filterPassesSpec.post enc Try.prog Try.f4 false true false false) := by
  refine returnsInHanded_of_change (C := Try.checked) Try.own started (by kernel_rfl) Try.func4
    (ChangeSpec.witness6 (enc := enc) (C := Try.checked) false ⟨#[], #[.agg #[.slice none 0 0, .slice none 0 0, .int .i64 0, .slice none 0 0, .slice none 0 0], .int .i64 0, .agg #[.int .i64 0, .int .i64 0, .int .i64 0, .int .i64 0, .int .i64 0], .int .i64 0], []⟩ 8 (by kernel_rfl) (by kernel_rfl) (by kernel_rfl) (by kernel_rfl)) ?_
  intro W base args ds gs before hval0 hW hcnd _
  have hval : ∀ (j : Nat) t v, Try.f4.params[j]? = some t → args[j]? = some v → Value.okWide Try.prog W .any base t v := hval0
  have hW' := hW
  obtain ⟨p, q, hA0, hV, rfl, hfz, hnd⟩ := hW
  have hA : DataW.TrodAll enc Try.prog W 0 (fun _ => true) true Try.f4.params.toList args.toList ds p := hA0
  rw [Try.params4] at hA hval
  obtain ⟨v0, vs0, d0, ds0, p0, q0, hargs, rfl, rfl, h0, r0⟩ := trodAll_cons hA
  obtain ⟨v1, vs1, d1, ds1, p1, q1, rfl, rfl, rfl, h1, r1⟩ := trodAll_cons r0
  obtain ⟨v2, vs2, d2, ds2, p2, q2, rfl, rfl, rfl, h2, r2⟩ := trodAll_cons r1
  obtain ⟨v3, vs3, d3, ds3, p3, q3, rfl, rfl, rfl, h3, r3⟩ := trodAll_cons r2
  obtain ⟨rfl, rfl, rfl⟩ := trodAll_nil r3
  obtain rfl : args = #[v0, v1, v2, v3] := by cases args; simp_all
  obtain ⟨rfl, rfl⟩ := trodVars_none hV
  have lt0 : ∀ x ∈ p0, x.block < W.heap.size := by obtain ⟨m, hm⟩ := h0; exact DataW.trod_lt m _ _ _ hm
  have lt1 : ∀ x ∈ p1, x.block < W.heap.size := by obtain ⟨m, hm⟩ := h1; exact DataW.trod_lt m _ _ _ hm
  have lt2 : ∀ x ∈ p2, x.block < W.heap.size := by obtain ⟨m, hm⟩ := h2; exact DataW.trod_lt m _ _ _ hm
  have lt3 : ∀ x ∈ p3, x.block < W.heap.size := by obtain ⟨m, hm⟩ := h3; exact DataW.trod_lt m _ _ _ hm
  obtain ⟨A, la, ca, A2, lq, cq_, now, A3, ls, cs, A4, lm, cm, rfl, ⟨hfA, hfW, hfA2, hfW2, hfA3, hfA4, hfW4⟩, wf_now, hca, hcq, hcs, hcm, hn3, hn4⟩ := open_fil Try.underlying27 (by kernel_rfl) (by kernel_rfl) Try.underlying22 Try.underlying23 Try.underlying3 Try.underlying24 Try.underlying25 (by kernel_rfl) (by kernel_rfl) (by kernel_rfl) (by kernel_rfl) (by kernel_rfl) (by kernel_rfl) (by kernel_rfl) (by kernel_rfl) (hval 0 _ v0 rfl rfl) h0
  obtain ⟨port, rfl, wf_port⟩ : ∃ x, v1 = .int .i64 x ∧ (Lit.int .i64 x).wf = true := by
    obtain ⟨x, hx, _, _, wx⟩ := open_int Try.underlying3 (hval 1 _ v1 rfl rfl) h1
    exact ⟨x, hx, wx⟩
  have bd_port := bounds_i64 wf_port
  obtain ⟨cs2, rfl, ai2⟩ := open_flat (P := Try.prog) [.i64, .i64, .i64, .i64, .i64] (by kernel_rfl) (by kernel_rfl) (hval 2 _ v2 rfl rfl) h2
  obtain ⟨i1, rr2_0, rfl, wf_i1, ai2⟩ := ai2.cons
  obtain ⟨i2, rr2_1, rfl, wf_i2, ai2⟩ := ai2.cons
  obtain ⟨i3, rr2_2, rfl, wf_i3, ai2⟩ := ai2.cons
  obtain ⟨i4, rr2_3, rfl, wf_i4, ai2⟩ := ai2.cons
  obtain ⟨i5, rr2_4, rfl, wf_i5, ai2⟩ := ai2.cons
  obtain rfl := ai2.nil
  have bd_i1 := bounds_i64 wf_i1
  have bd_i2 := bounds_i64 wf_i2
  have bd_i3 := bounds_i64 wf_i3
  have bd_i4 := bounds_i64 wf_i4
  have bd_i5 := bounds_i64 wf_i5
  obtain ⟨t, rfl, wf_t⟩ : ∃ x, v3 = .int .i64 x ∧ (Lit.int .i64 x).wf = true := by
    obtain ⟨x, hx, _, _, wx⟩ := open_int Try.underlying3 (hval 3 _ v3 rfl rfl) h3
    exact ⟨x, hx, wx⟩
  have bd_t := bounds_i64 wf_t
  clear hA0 hval0
  refine (filterPasses_walk A la ca A2 lq cq_ now A3 ls cs A4 lm cm port i1 i2 i3 i4 i5 t W hfA hfW hfA2 hfW2 hfA3 hfA4 hfW4 ⟨hca, hcq, hcs, hcm⟩ hn3 hn4).mono fun e W' ⟨he, bel⟩ => ?_
  subst he
  exact ⟨_, rfl, _, _, _, [], _, [], hW', trodAll_mk1 (shut_bool Try.underlying4 _), (trodAll_cons_mk (Below.trod Try.laidOut (by kernel_rfl) (of_decide_eq_true (by kernel_rfl)) h0 bel lt0) (trodAll_cons_mk (Below.trod Try.laidOut (by kernel_rfl) (of_decide_eq_true (by kernel_rfl)) h1 bel lt1) (trodAll_cons_mk (Below.trod Try.laidOut (by kernel_rfl) (of_decide_eq_true (by kernel_rfl)) h2 bel lt2) (trodAll_cons_mk (Below.trod Try.laidOut (by kernel_rfl) (of_decide_eq_true (by kernel_rfl)) h3 bel lt3) trodAll_mk0)))), rfl, bel.frame _, fun h => by cases h⟩

theorem proved : Rows.FilterPassesSaid :=
  OpenClaim.holds_of_wide 4 Try.f4 rfl rfl rfl rfl rfl rfl rfl ⟨rfl, rfl, rfl, rfl, rfl⟩ rfl rfl rfl rfl rfl (by kernel_rfl) Try.func4 (by kernel_rfl)
    (of_decide_eq_true (by kernel_rfl)) (by unfold Func.isWrapper; first | (rw [if_pos (by decide +kernel)]; kernel_rfl) | (rw [if_neg (by decide +kernel)]; exact ⟨rfl, rfl⟩))
    (fun os started H enc _ => lifted os started H enc)
#print axioms proved
end Go.Proofs.Ytogeficooemngaa.filterPasses
