/-
  ShapeConforms returns true for every input, and each argument reads afterwards as it read before. No conditions.
-/
import Derived.Test.YtaekcgapbkmepaaShapeConformsW
import Derived.Test.YtaekcgapbkmepaaOpenFlat
import Derived.Test.YtaekcgapbkmepaaOpen
namespace Go.Proofs.Ytaekcgapbkmepaa.shapeConforms
open Go.ChangeShapes Go.WideShapes Go.ChangeAt Go.RowKit Go.Deep Go.Joins
set_option linter.unusedVariables false

set_option maxRecDepth 100000 in
theorem lifted (os : Os) (started : os.Started) (H : Type) (enc : TypeId × Value → H) :
    ReturnsInHanded {} Try.checked os 8 .any (Rows.shapeConformsSpec.pre6 enc Try.prog Try.f8 Rows.shapeConformsRow.domain false) (Rows.shapeConformsSpec.post enc Try.prog Try.f8 false true false false) := by
  refine returnsInHanded_of_change (C := Try.checked) Try.own started (by kernel_rfl) Try.func8
    (ChangeSpec.witness6 (enc := enc) (C := Try.checked) false ⟨#[], #[.agg #[.int .u32 0, .int .u32 0, .slice none 0 0, .slice none 0 0]], []⟩ 8 (by kernel_rfl) (by kernel_rfl) (by kernel_rfl) (by kernel_rfl)) ?_
  intro W base args ds gs before hval0 hW hcnd _
  have hval : ∀ (j : Nat) t v, Try.f8.params[j]? = some t → args[j]? = some v → Value.okWide Try.prog W .any base t v := hval0
  have hW' := hW
  obtain ⟨p, q, hA0, hV, rfl, hfz, hnd⟩ := hW
  have hA : DataW.TrodAll enc Try.prog W 0 (fun _ => true) true Try.f8.params.toList args.toList ds p := hA0
  rw [Try.params8] at hA hval
  obtain ⟨v0, vs0, d0, ds0, p0, q0, hargs, rfl, rfl, h0, r0⟩ := trodAll_cons hA
  obtain ⟨rfl, rfl, rfl⟩ := trodAll_nil r0
  obtain rfl : args = #[v0] := by cases args; simp_all
  obtain ⟨rfl, rfl⟩ := trodVars_none hV
  have lt0 : ∀ x ∈ p0, x.block < W.heap.size := by obtain ⟨m, hm⟩ := h0; exact DataW.trod_lt m _ _ _ hm
  obtain ⟨bu0, ra0, Ga0, Sa0, g0, s0, cg0, cs0, rfl, wb0, wr0, hG0, hS0, hg0, hs0, hmg0, hms0⟩ := open_draft Try.underlying27 (by kernel_rfl) (by kernel_rfl) rfl rfl rfl rfl Try.underlying24 Try.underlying25 Try.underlying57 (by kernel_rfl) (hval 0 _ v0 rfl rfl) h0
  have bd_bu0 := bounds_u32 wb0
  have bd_ra0 := bounds_u32 wr0
  clear hA0 hval0
  refine (shapeConforms_walk bu0 ra0 Ga0 g0 cg0 Sa0 s0 cs0 W (Ro.of_arr1 hG0) (Ro.of_arr1 hS0) hg0 hs0 hmg0 hms0 (by omega)).mono fun e W' ⟨he, bel⟩ => ?_
  subst he
  exact ⟨_, rfl, _, _, _, [], _, [], hW', trodAll_mk1 (shut_bool Try.underlying4 _), (trodAll_cons_mk (Below.trod Try.laidOut (by kernel_rfl) (of_decide_eq_true (by kernel_rfl)) h0 bel lt0) trodAll_mk0), rfl, bel.frame _, fun h => by cases h⟩

theorem proved : Rows.ShapeConformsSaid :=
  OpenClaim.holds_of_wide 8 Try.f8 rfl rfl rfl rfl rfl rfl rfl ⟨rfl, rfl, rfl, rfl, rfl⟩ rfl rfl rfl rfl rfl (by kernel_rfl) Try.func8 (by kernel_rfl)
    (of_decide_eq_true (by kernel_rfl)) (by unfold Func.isWrapper; first | (rw [if_pos (by decide +kernel)]; kernel_rfl) | (rw [if_neg (by decide +kernel)]; exact ⟨rfl, rfl⟩))
    (fun os started H enc _ => lifted os started H enc)
#print axioms proved
end Go.Proofs.Ytaekcgapbkmepaa.shapeConforms
