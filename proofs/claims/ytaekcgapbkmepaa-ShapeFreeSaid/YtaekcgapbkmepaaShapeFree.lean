/-
  ShapeFree returns true for every input, and each argument reads afterwards as it read before. No conditions.
-/
import Derived.Test.YtaekcgapbkmepaaShapeFreeW
import Derived.Test.YtaekcgapbkmepaaOpenFlat
import Derived.Test.YtaekcgapbkmepaaOpen
namespace Go.Proofs.Ytaekcgapbkmepaa.shapeFree
open Go.ChangeShapes Go.WideShapes Go.ChangeAt Go.RowKit Go.Deep Go.Joins
set_option linter.unusedVariables false

set_option maxRecDepth 100000 in
theorem lifted (os : Os) (started : os.Started) (H : Type) (enc : TypeId × Value → H) :
    ReturnsInHanded {} Try.checked os 5 .any (Rows.shapeFreeSpec.pre6 enc Try.prog Try.f5 Rows.shapeFreeRow.domain false) (Rows.shapeFreeSpec.post enc Try.prog Try.f5 false true false false) := by
  refine returnsInHanded_of_change (C := Try.checked) Try.own started (by kernel_rfl) Try.func5
    (ChangeSpec.witness6 (enc := enc) (C := Try.checked) false ⟨#[], #[.agg #[.int .u32 0, .int .u32 0, .slice none 0 0, .slice none 0 0], .int .u32 0, .slice none 0 0], []⟩ 8 (by kernel_rfl) (by kernel_rfl) (by kernel_rfl) (by kernel_rfl)) ?_
  intro W base args ds gs before hval0 hW hcnd _
  have hval : ∀ (j : Nat) t v, Try.f5.params[j]? = some t → args[j]? = some v → Value.okWide Try.prog W .any base t v := hval0
  have hW' := hW
  obtain ⟨p, q, hA0, hV, rfl, hfz, hnd⟩ := hW
  have hA : DataW.TrodAll enc Try.prog W 0 (fun _ => true) true Try.f5.params.toList args.toList ds p := hA0
  rw [Try.params5] at hA hval
  obtain ⟨v0, vs0, d0, ds0, p0, q0, hargs, rfl, rfl, h0, r0⟩ := trodAll_cons hA
  obtain ⟨v1, vs1, d1, ds1, p1, q1, rfl, rfl, rfl, h1, r1⟩ := trodAll_cons r0
  obtain ⟨v2, vs2, d2, ds2, p2, q2, rfl, rfl, rfl, h2, r2⟩ := trodAll_cons r1
  obtain ⟨rfl, rfl, rfl⟩ := trodAll_nil r2
  obtain rfl : args = #[v0, v1, v2] := by cases args; simp_all
  obtain ⟨rfl, rfl⟩ := trodVars_none hV
  have lt0 : ∀ x ∈ p0, x.block < W.heap.size := by obtain ⟨m, hm⟩ := h0; exact DataW.trod_lt m _ _ _ hm
  have lt1 : ∀ x ∈ p1, x.block < W.heap.size := by obtain ⟨m, hm⟩ := h1; exact DataW.trod_lt m _ _ _ hm
  have lt2 : ∀ x ∈ p2, x.block < W.heap.size := by obtain ⟨m, hm⟩ := h2; exact DataW.trod_lt m _ _ _ hm
  obtain ⟨bu0, ra0, Ga0, Sa0, g0, s0, cg0, cs0, rfl, wb0, wr0, hG0, hS0, hg0, hs0, hmg0, hms0⟩ := open_draft Try.underlying27 (by kernel_rfl) (by kernel_rfl) rfl rfl rfl rfl Try.underlying24 Try.underlying25 Try.underlying57 (by kernel_rfl) (hval 0 _ v0 rfl rfl) h0
  have bd_bu0 := bounds_u32 wb0
  have bd_ra0 := bounds_u32 wr0
  obtain ⟨bo, rfl, wf_bo⟩ : ∃ x, v1 = .int .u32 x ∧ (Lit.int .u32 x).wf = true := by
    obtain ⟨x, hx, _, _, wx⟩ := open_int Try.underlying24 (hval 1 _ v1 rfl rfl) h1
    exact ⟨x, hx, wx⟩
  have bd_bo := bounds_u32 wf_bo
  obtain ⟨sa2, sl2, sc2, rfl⟩ := okWide_slice Try.underlying53 (hval 2 _ v2 rfl rfl)
  obtain ⟨A2, l2, c2, e2, hl2, hlc2, hc2, hw2⟩ : ∃ (A : Option Addr) (l : List Int) (c : Nat), Value.slice sa2 sl2 sc2 = .slice A l.length c ∧ Arr1 .u32 W W.heap.size A l ∧ l.length ≤ c ∧ c ≤ 9223372036854775807 ∧ ∀ x ∈ l, (Lit.int .u32 x).wf = true := by
    obtain ⟨fuel, hf⟩ := h2
    exact open_is Try.underlying53 Try.underlying24 (by kernel_rfl) hf
  rw [e2] at h2 hW' ⊢
  clear hA0 hval0
  refine (shapeFree_walk bu0 ra0 Ga0 g0 cg0 Sa0 s0 cs0 bo A2 l2 c2 W (Ro.of_arr1 hG0) (Ro.of_arr1 hS0) hg0 hs0 hmg0 hms0 (by omega) (Ro.of_arr1 hl2) (fun x hx => by have := bounds_u32 (hw2 x hx); omega) (by omega)).mono fun e W' ⟨he, bel⟩ => ?_
  subst he
  exact ⟨_, rfl, _, _, _, [], _, [], hW', trodAll_mk1 (shut_bool Try.underlying4 _), (trodAll_cons_mk (Below.trod Try.laidOut (by kernel_rfl) (of_decide_eq_true (by kernel_rfl)) h0 bel lt0) (trodAll_cons_mk (Below.trod Try.laidOut (by kernel_rfl) (of_decide_eq_true (by kernel_rfl)) h1 bel lt1) (trodAll_cons_mk (Below.trod Try.laidOut (by kernel_rfl) (of_decide_eq_true (by kernel_rfl)) h2 bel lt2) trodAll_mk0))), rfl, bel.frame _, fun h => by cases h⟩

theorem proved : Rows.ShapeFreeSaid :=
  OpenClaim.holds_of_wide 5 Try.f5 rfl rfl rfl rfl rfl rfl rfl ⟨rfl, rfl, rfl, rfl, rfl⟩ rfl rfl rfl rfl rfl (by kernel_rfl) Try.func5 (by kernel_rfl)
    (of_decide_eq_true (by kernel_rfl)) (by unfold Func.isWrapper; first | (rw [if_pos (by decide +kernel)]; kernel_rfl) | (rw [if_neg (by decide +kernel)]; exact ⟨rfl, rfl⟩))
    (fun os started H enc _ => lifted os started H enc)
#print axioms proved
end Go.Proofs.Ytaekcgapbkmepaa.shapeFree
