/-
  BucketMerges returns true for every input, and each argument reads afterwards as it read before. No conditions.
-/
import Derived.Test.YtecofcjlokfkhaaBucketMergesW
import Derived.Test.YtecofcjlokfkhaaOpen2
import Derived.Test.YtecofcjlokfkhaaOpenFlat
import Derived.Test.YtecofcjlokfkhaaOpen
namespace Go.Proofs.Ytecofcjlokfkhaa.bucketMerges
open Go.ChangeShapes Go.WideShapes Go.ChangeAt Go.RowKit Go.Deep Go.Joins
set_option linter.unusedVariables false

set_option maxRecDepth 100000 in
theorem lifted (os : Os) (started : os.Started) (H : Type) (enc : TypeId × Value → H) :
    ReturnsInHanded {} Try.checked os 8 .any (Rows.bucketMergesSpec.pre6 enc Try.prog Try.f8 Rows.bucketMergesRow.domain false) (Rows.bucketMergesSpec.post enc Try.prog Try.f8 false true false false) := by
  refine returnsInHanded_of_change (C := Try.checked) Try.own started (by kernel_rfl) Try.func8
    (ChangeSpec.witness6 (enc := enc) (C := Try.checked) false ⟨#[], #[.agg #[.int .u32 0, .int .u32 0, .slice none 0 0, .slice none 0 0, .int .u32 0, .int .u32 0, .slice none 0 0, .slice none 0 0], .slice none 0 0], []⟩ 8 (by kernel_rfl) (by kernel_rfl) (by kernel_rfl) (by kernel_rfl)) ?_
  intro W base args ds gs before hval0 hW hcnd _
  have hval : ∀ (j : Nat) t v, Try.f8.params[j]? = some t → args[j]? = some v → Value.okWide Try.prog W .any base t v := hval0
  have hW' := hW
  obtain ⟨p, q, hA0, hV, rfl, hfz, hnd⟩ := hW
  have hA : DataW.TrodAll enc Try.prog W 0 (fun _ => true) true Try.f8.params.toList args.toList ds p := hA0
  rw [Try.params8] at hA hval
  obtain ⟨v0, vs0, d0, ds0, p0, q0, hargs, rfl, rfl, h0, r0⟩ := trodAll_cons hA
  obtain ⟨v1, vs1, d1, ds1, p1, q1, rfl, rfl, rfl, h1, r1⟩ := trodAll_cons r0
  obtain ⟨rfl, rfl, rfl⟩ := trodAll_nil r1
  obtain rfl : args = #[v0, v1] := by cases args; simp_all
  obtain ⟨rfl, rfl⟩ := trodVars_none hV
  have lt0 : ∀ x ∈ p0, x.block < W.heap.size := by obtain ⟨m, hm⟩ := h0; exact DataW.trod_lt m _ _ _ hm
  have lt1 : ∀ x ∈ p1, x.block < W.heap.size := by obtain ⟨m, hm⟩ := h1; exact DataW.trod_lt m _ _ _ hm
  obtain ⟨bua0, raa0, Gaa0, Saa0, ga0, sa0, cga0, csa0, bub0, rab0, Gab0, Sab0, gb0, sb0, cgb0, csb0, rfl, ⟨wba0, wra0, hGa0, hSa0, hga0, hsa0, hmga0, hmsa0⟩, wbb0, wrb0, hGb0, hSb0, hgb0, hsb0, hmgb0, hmsb0⟩ := open_drafts2 Try.underlying63 (by kernel_rfl) Try.underlying27 (by kernel_rfl) (by kernel_rfl) rfl rfl rfl rfl Try.underlying24 Try.underlying25 Try.underlying61 (by kernel_rfl) (hval 0 _ v0 rfl rfl) h0
  have bd_bua0 := bounds_u32 wba0
  have bd_raa0 := bounds_u32 wra0
  have bd_bub0 := bounds_u32 wbb0
  have bd_rab0 := bounds_u32 wrb0
  obtain ⟨sa1, sl1, sc1, rfl⟩ := okWide_slice Try.underlying64 (hval 1 _ v1 rfl rfl)
  obtain ⟨A1, l1, c1, e1, hl1, hlc1, hc1⟩ : ∃ (A : Option Addr) (l : List Bool) (c : Nat), Value.slice sa1 sl1 sc1 = .slice A l.length c ∧ Ro W A (l.map Value.bool) ∧ l.length ≤ c ∧ c ≤ 9223372036854775807 := by
    obtain ⟨fuel, hf⟩ := h1
    exact open_bs Try.underlying64 Try.underlying4 (by kernel_rfl) hf
  rw [e1] at h1 hW' ⊢
  clear hA0 hval0
  refine (bucketMerges_walk bua0 raa0 Gaa0 ga0 cga0 Saa0 sa0 csa0 bub0 rab0 Gab0 gb0 cgb0 Sab0 sb0 csb0 A1 l1 c1 W (Ro.of_arr1 hGa0) (Ro.of_arr1 hSa0) hga0 hsa0 hmga0 hmsa0 (Ro.of_arr1 hGb0) (Ro.of_arr1 hSb0) hgb0 hsb0 hmgb0 hmsb0 (by omega) hl1 (by omega)).mono fun e W' ⟨he, bel⟩ => ?_
  subst he
  exact ⟨_, rfl, _, _, _, [], _, [], hW', trodAll_mk1 (shut_bool Try.underlying4 _), (trodAll_cons_mk (Below.trod Try.laidOut (by kernel_rfl) (of_decide_eq_true (by kernel_rfl)) h0 bel lt0) (trodAll_cons_mk (Below.trod Try.laidOut (by kernel_rfl) (of_decide_eq_true (by kernel_rfl)) h1 bel lt1) trodAll_mk0)), rfl, bel.frame _, fun h => by cases h⟩

theorem proved : Rows.BucketMergesSaid :=
  OpenClaim.holds_of_wide 8 Try.f8 rfl rfl rfl rfl rfl rfl rfl ⟨rfl, rfl, rfl, rfl, rfl⟩ rfl rfl rfl rfl rfl (by kernel_rfl) Try.func8 (by kernel_rfl)
    (of_decide_eq_true (by kernel_rfl)) (by unfold Func.isWrapper; first | (rw [if_pos (by decide +kernel)]; kernel_rfl) | (rw [if_neg (by decide +kernel)]; exact ⟨rfl, rfl⟩))
    (fun os started H enc _ => lifted os started H enc)
#print axioms proved
end Go.Proofs.Ytecofcjlokfkhaa.bucketMerges
