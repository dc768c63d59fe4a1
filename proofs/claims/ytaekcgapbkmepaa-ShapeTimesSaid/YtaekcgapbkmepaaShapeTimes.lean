/-
  ShapeTimes returns true for every input, and each argument reads afterwards as it read before. No conditions.
-/
import Derived.Test.YtaekcgapbkmepaaShapeTimesW
import Derived.Test.YtaekcgapbkmepaaOpenFlat
import Derived.Test.YtaekcgapbkmepaaOpen
namespace Go.Proofs.Ytaekcgapbkmepaa.shapeTimes
open Go.ChangeShapes Go.WideShapes Go.ChangeAt Go.RowKit Go.Deep Go.Joins
set_option linter.unusedVariables false

set_option maxRecDepth 100000 in
theorem lifted (os : Os) (started : os.Started) (H : Type) (enc : TypeId × Value → H) :
    ReturnsInHanded {} Try.checked os 3 .any (Rows.shapeTimesSpec.pre6 enc Try.prog Try.f3 Rows.shapeTimesRow.domain false) (Rows.shapeTimesSpec.post enc Try.prog Try.f3 false true false false) := by
  refine returnsInHanded_of_change (C := Try.checked) Try.own started (by kernel_rfl) Try.func3
    (ChangeSpec.witness6 (enc := enc) (C := Try.checked) false ⟨#[], #[.agg #[.int .i64 0, .int .i64 0], .agg #[.int .u32 0, .int .u32 0, .slice none 0 0, .slice none 0 0], .agg #[.int .i64 0, .int .i64 0], .agg #[.int .i64 0, .int .i64 0]], []⟩ 8 (by kernel_rfl) (by kernel_rfl) (by kernel_rfl) (by kernel_rfl)) ?_
  intro W base args ds gs before hval0 hW hcnd _
  have hval : ∀ (j : Nat) t v, Try.f3.params[j]? = some t → args[j]? = some v → Value.okWide Try.prog W .any base t v := hval0
  have hW' := hW
  obtain ⟨p, q, hA0, hV, rfl, hfz, hnd⟩ := hW
  have hA : DataW.TrodAll enc Try.prog W 0 (fun _ => true) true Try.f3.params.toList args.toList ds p := hA0
  rw [Try.params3] at hA hval
  obtain ⟨v0, vs0, d0, ds0, p0, q0, hargs, rfl, rfl, h0, r0⟩ := trodAll_cons hA
  obtain ⟨v1, vs1, d1, ds1, p1, q1, rfl, rfl, rfl, h1, r1⟩ := trodAll_cons r0
  obtain ⟨v2, vs2, d2, ds2, p2, q2, rfl, rfl, rfl, h2, r2⟩ := trodAll_cons r1
  obtain ⟨v3, vs3, d3, ds3, p3, q3, rfl, rfl, rfl, h3, r3⟩ := trodAll_cons r2
  obtain ⟨rfl, rfl, rfl⟩ := trodAll_nil r3
  obtain rfl : args = #[v0, v1, v2, v3] := by cases args; simp_all
  obtain ⟨rfl, rfl⟩ := trodVars_none hV
  have lt0 : ∀ x ∈ p0, x.block < W.heap.size := by obtain ⟨m, hm⟩ := h0; exact DataW.trod_lt m _ _ _ hm
  have lt1 : ∀ x ∈ p1, x.block < W.heap.size := by obtain ⟨m, hm⟩ := h1; exact DataW.trod_lt m _ _ _ hm
  have lt2 : ∀ x ∈ p2, x.block < W.heap.size := by obtain ⟨m, hm⟩ := h2; exact DataW.trod_lt m _ _ _ hm
  have lt3 : ∀ x ∈ p3, x.block < W.heap.size := by obtain ⟨m, hm⟩ := h3; exact DataW.trod_lt m _ _ _ hm
  obtain ⟨cs0, rfl, ai0⟩ := open_flat (P := Try.prog) [.i64, .i64] (by kernel_rfl) (by kernel_rfl) (hval 0 _ v0 rfl rfl) h0
  obtain ⟨ba, rr0_0, rfl, wf_ba, ai0⟩ := ai0.cons
  obtain ⟨bb, rr0_1, rfl, wf_bb, ai0⟩ := ai0.cons
  obtain rfl := ai0.nil
  have bd_ba := bounds_i64 wf_ba
  have bd_bb := bounds_i64 wf_bb
  obtain ⟨bu1, ra1, Ga1, Sa1, g1, s1, cg1, cs1, rfl, wb1, wr1, hG1, hS1, hg1, hs1, hmg1, hms1⟩ := open_draft Try.underlying27 (by kernel_rfl) (by kernel_rfl) rfl rfl rfl rfl Try.underlying24 Try.underlying25 Try.underlying57 (by kernel_rfl) (hval 1 _ v1 rfl rfl) h1
  have bd_bu1 := bounds_u32 wb1
  have bd_ra1 := bounds_u32 wr1
  obtain ⟨cs2, rfl, ai2⟩ := open_flat (P := Try.prog) [.i64, .i64] (by kernel_rfl) (by kernel_rfl) (hval 2 _ v2 rfl rfl) h2
  obtain ⟨sa, rr2_0, rfl, wf_sa, ai2⟩ := ai2.cons
  obtain ⟨sb, rr2_1, rfl, wf_sb, ai2⟩ := ai2.cons
  obtain rfl := ai2.nil
  have bd_sa := bounds_i64 wf_sa
  have bd_sb := bounds_i64 wf_sb
  obtain ⟨cs3, rfl, ai3⟩ := open_flat (P := Try.prog) [.i64, .i64] (by kernel_rfl) (by kernel_rfl) (hval 3 _ v3 rfl rfl) h3
  obtain ⟨xa, rr3_0, rfl, wf_xa, ai3⟩ := ai3.cons
  obtain ⟨xb, rr3_1, rfl, wf_xb, ai3⟩ := ai3.cons
  obtain rfl := ai3.nil
  have bd_xa := bounds_i64 wf_xa
  have bd_xb := bounds_i64 wf_xb
  clear hA0 hval0
  refine (shapeTimes_walk ba bb bu1 ra1 sa sb xa xb _ _ W (by omega) (by omega)).mono fun e W' ⟨he, bel⟩ => ?_
  subst he
  exact ⟨_, rfl, _, _, _, [], _, [], hW', trodAll_mk1 (shut_bool Try.underlying4 _), (trodAll_cons_mk (Below.trod Try.laidOut (by kernel_rfl) (of_decide_eq_true (by kernel_rfl)) h0 bel lt0) (trodAll_cons_mk (Below.trod Try.laidOut (by kernel_rfl) (of_decide_eq_true (by kernel_rfl)) h1 bel lt1) (trodAll_cons_mk (Below.trod Try.laidOut (by kernel_rfl) (of_decide_eq_true (by kernel_rfl)) h2 bel lt2) (trodAll_cons_mk (Below.trod Try.laidOut (by kernel_rfl) (of_decide_eq_true (by kernel_rfl)) h3 bel lt3) trodAll_mk0)))), rfl, bel.frame _, fun h => by cases h⟩

theorem proved : Rows.ShapeTimesSaid :=
  OpenClaim.holds_of_wide 3 Try.f3 rfl rfl rfl rfl rfl rfl rfl ⟨rfl, rfl, rfl, rfl, rfl⟩ rfl rfl rfl rfl rfl (by kernel_rfl) Try.func3 (by kernel_rfl)
    (of_decide_eq_true (by kernel_rfl)) (by unfold Func.isWrapper; first | (rw [if_pos (by decide +kernel)]; kernel_rfl) | (rw [if_neg (by decide +kernel)]; exact ⟨rfl, rfl⟩))
    (fun os started H enc _ => lifted os started H enc)
#print axioms proved
end Go.Proofs.Ytaekcgapbkmepaa.shapeTimes
