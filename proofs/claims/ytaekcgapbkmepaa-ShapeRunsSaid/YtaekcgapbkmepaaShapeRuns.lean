/-
  ShapeRuns returns true for every input, and each argument reads afterwards as it read before. No conditions.
-/
import Derived.Test.YtaekcgapbkmepaaShapeRunsW
import Derived.Test.YtaekcgapbkmepaaOpenFlat
import Derived.Test.YtaekcgapbkmepaaOpen
namespace Go.Proofs.Ytaekcgapbkmepaa.shapeRuns
open Go.ChangeShapes Go.WideShapes Go.ChangeAt Go.RowKit Go.Deep Go.Joins
set_option linter.unusedVariables false

set_option maxRecDepth 100000 in
theorem lifted (os : Os) (started : os.Started) (H : Type) (enc : TypeId × Value → H) :
    ReturnsInHanded {} Try.checked os 4 .any (Rows.shapeRunsSpec.pre6 enc Try.prog Try.f4 Rows.shapeRunsRow.domain false) (Rows.shapeRunsSpec.post enc Try.prog Try.f4 false true false false) := by
  refine returnsInHanded_of_change (C := Try.checked) Try.own started (by kernel_rfl) Try.func4
    (ChangeSpec.witness6 (enc := enc) (C := Try.checked) false ⟨#[], #[.agg #[.int .i64 0, .int .i64 0], .slice none 0 0, .agg #[.int .u32 0, .int .u32 0, .slice none 0 0, .slice none 0 0]], []⟩ 8 (by kernel_rfl) (by kernel_rfl) (by kernel_rfl) (by kernel_rfl)) ?_
  intro W base args ds gs before hval0 hW hcnd _
  have hval : ∀ (j : Nat) t v, Try.f4.params[j]? = some t → args[j]? = some v → Value.okWide Try.prog W .any base t v := hval0
  have hW' := hW
  obtain ⟨p, q, hA0, hV, rfl, hfz, hnd⟩ := hW
  have hA : DataW.TrodAll enc Try.prog W 0 (fun _ => true) true Try.f4.params.toList args.toList ds p := hA0
  rw [Try.params4] at hA hval
  obtain ⟨v0, vs0, d0, ds0, p0, q0, hargs, rfl, rfl, h0, r0⟩ := trodAll_cons hA
  obtain ⟨v1, vs1, d1, ds1, p1, q1, rfl, rfl, rfl, h1, r1⟩ := trodAll_cons r0
  obtain ⟨v2, vs2, d2, ds2, p2, q2, rfl, rfl, rfl, h2, r2⟩ := trodAll_cons r1
  obtain ⟨rfl, rfl, rfl⟩ := trodAll_nil r2
  obtain rfl : args = #[v0, v1, v2] := by cases args; simp_all
  obtain ⟨rfl, rfl⟩ := trodVars_none hV
  have lt0 : ∀ x ∈ p0, x.block < W.heap.size := by obtain ⟨m, hm⟩ := h0; exact DataW.trod_lt m _ _ _ hm
  have lt1 : ∀ x ∈ p1, x.block < W.heap.size := by obtain ⟨m, hm⟩ := h1; exact DataW.trod_lt m _ _ _ hm
  have lt2 : ∀ x ∈ p2, x.block < W.heap.size := by obtain ⟨m, hm⟩ := h2; exact DataW.trod_lt m _ _ _ hm
  obtain ⟨cs0, rfl, ai0⟩ := open_flat (P := Try.prog) [.i64, .i64] (by kernel_rfl) (by kernel_rfl) (hval 0 _ v0 rfl rfl) h0
  obtain ⟨ba, rr0_0, rfl, wf_ba, ai0⟩ := ai0.cons
  obtain ⟨bb, rr0_1, rfl, wf_bb, ai0⟩ := ai0.cons
  obtain rfl := ai0.nil
  have bd_ba := bounds_i64 wf_ba
  have bd_bb := bounds_i64 wf_bb
  obtain ⟨sa1, sl1, sc1, rfl⟩ := okWide_slice Try.underlying45 (hval 1 _ v1 rfl rfl)
  obtain ⟨A1, l1, c1, e1, hl1, hlc1, hc1, hw1⟩ : ∃ (A : Option Addr) (l : List (Int × Int)) (c : Nat), Value.slice sa1 sl1 sc1 = .slice A l.length c ∧ Arr2 W W.heap.size A l ∧ l.length ≤ c ∧ c ≤ 9223372036854775807 ∧ ∀ x ∈ l, (Lit.int .i64 x.1).wf = true ∧ (Lit.int .i64 x.2).wf = true := by
    obtain ⟨fuel, hf⟩ := h1
    exact open_ps Try.underlying45 Try.underlying31 (by kernel_rfl) rfl rfl rfl rfl Try.underlying3 (by kernel_rfl) hf
  rw [e1] at h1 hW' ⊢
  obtain ⟨bu2, ra2, Ga2, Sa2, g2, s2, cg2, cs2, rfl, wb2, wr2, hG2, hS2, hg2, hs2, hmg2, hms2⟩ := open_draft Try.underlying27 (by kernel_rfl) (by kernel_rfl) rfl rfl rfl rfl Try.underlying24 Try.underlying25 Try.underlying57 (by kernel_rfl) (hval 2 _ v2 rfl rfl) h2
  have bd_bu2 := bounds_u32 wb2
  have bd_ra2 := bounds_u32 wr2
  clear hA0 hval0
  refine (shapeRuns_walk ba bb A1 l1 c1 bu2 ra2 Ga2 g2 cg2 Sa2 s2 cs2 W (Ro.of_arr2 hl1) hlc1 hc1 (Ro.of_arr1 hG2) (Ro.of_arr1 hS2) hg2 hs2 hmg2 hms2 (by omega)).mono fun e W' ⟨he, bel⟩ => ?_
  subst he
  exact ⟨_, rfl, _, _, _, [], _, [], hW', trodAll_mk1 (shut_bool Try.underlying4 _), (trodAll_cons_mk (Below.trod Try.laidOut (by kernel_rfl) (of_decide_eq_true (by kernel_rfl)) h0 bel lt0) (trodAll_cons_mk (Below.trod Try.laidOut (by kernel_rfl) (of_decide_eq_true (by kernel_rfl)) h1 bel lt1) (trodAll_cons_mk (Below.trod Try.laidOut (by kernel_rfl) (of_decide_eq_true (by kernel_rfl)) h2 bel lt2) trodAll_mk0))), rfl, bel.frame _, fun h => by cases h⟩

theorem proved : Rows.ShapeRunsSaid :=
  OpenClaim.holds_of_wide 4 Try.f4 rfl rfl rfl rfl rfl rfl rfl ⟨rfl, rfl, rfl, rfl, rfl⟩ rfl rfl rfl rfl rfl (by kernel_rfl) Try.func4 (by kernel_rfl)
    (of_decide_eq_true (by kernel_rfl)) (by unfold Func.isWrapper; first | (rw [if_pos (by decide +kernel)]; kernel_rfl) | (rw [if_neg (by decide +kernel)]; exact ⟨rfl, rfl⟩))
    (fun os started H enc _ => lifted os started H enc)
#print axioms proved
end Go.Proofs.Ytaekcgapbkmepaa.shapeRuns
