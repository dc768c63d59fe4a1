/-
  CreditSmooth returns true for every input, and each argument reads afterwards as it read before. No conditions.
-/
import Derived.Test.YtjepnlebmgkomaaCrSmoothW
import Derived.Test.YtjepnlebmgkomaaOpenFlat
import Derived.Test.YtjepnlebmgkomaaOpen
namespace Go.Proofs.Ytjepnlebmgkomaa.creditSmooth
open Go.ChangeShapes Go.WideShapes Go.ChangeAt Go.RowKit Go.Deep Go.Joins
set_option linter.unusedVariables false

set_option maxRecDepth 100000 in
theorem lifted (os : Os) (started : os.Started) (H : Type) (enc : TypeId × Value → H) :
    ReturnsInHanded {} Try.checked os 8 .any (Rows.creditSmoothSpec.pre6 enc Try.prog Try.f8 Rows.creditSmoothRow.domain false) (Rows.creditSmoothSpec.post enc Try.prog Try.f8 false true false false) := by
  refine returnsInHanded_of_change (C := Try.checked) Try.own started (by kernel_rfl) Try.func8
    (ChangeSpec.witness6 (enc := enc) (C := Try.checked) false ⟨#[], #[.agg #[.int .u32 0, .int .u32 0], .agg #[.int .u32 0, .int .u32 0, .slice none 0 0, .slice none 0 0]], []⟩ 8 (by kernel_rfl) (by kernel_rfl) (by kernel_rfl) (by kernel_rfl)) ?_
  intro W base args ds gs before hval0 hW hcnd _
  have hval : ∀ (j : Nat) t v, Try.f8.params[j]? = some t → args[j]? = some v → Value.okWide Try.prog W .any base t v := hval0
  have hW' := hW
  obtain ⟨p, q, hA0, hV, rfl, hfz, hnd⟩ := hW
  have hA : DataW.TrodAll enc Try.prog W 0 (fun _ => true) true Try.f8.params.toList args.toList ds p := hA0
  rw [Try.params8] at hA hval
  obtain ⟨v0, vs0, d0, ds0, p0, q0, hargs, rfl, rfl, h0, r0⟩ := trodAll_cons hA
  obtain ⟨v1, vs1, d1, ds1, p1, q1, rfl, rfl, rfl, h1, r1⟩ := trodAll_cons r0
  obtain ⟨rfl, rfl, rfl⟩ := trodAll_nil r1
  obtain rfl : args = #[v0, v1] := by cases args; simp_all
  obtain ⟨rfl, rfl⟩ := trodVars_none hV
  have lt0 : ∀ x ∈ p0, x.block < W.heap.size := by obtain ⟨m, hm⟩ := h0; exact DataW.trod_lt m _ _ _ hm
  have lt1 : ∀ x ∈ p1, x.block < W.heap.size := by obtain ⟨m, hm⟩ := h1; exact DataW.trod_lt m _ _ _ hm
  obtain ⟨cs0, rfl, ai0⟩ := open_flat (P := Try.prog) [.u32, .u32] (by kernel_rfl) (by kernel_rfl) (hval 0 _ v0 rfl rfl) h0
  obtain ⟨na, rr0_0, rfl, wf_na, ai0⟩ := ai0.cons
  obtain ⟨nb, rr0_1, rfl, wf_nb, ai0⟩ := ai0.cons
  obtain rfl := ai0.nil
  have bd_na := bounds_u32 wf_na
  have bd_nb := bounds_u32 wf_nb
  obtain ⟨bu1, ra1, Ga1, Sa1, g1, s1, cg1, cs1, rfl, wb1, wr1, hG1, hS1, hg1, hs1, hmg1, hms1⟩ := open_draft Try.underlying28 (by kernel_rfl) (by kernel_rfl) rfl rfl rfl rfl Try.underlying25 Try.underlying26 Try.underlying32 (by kernel_rfl) (hval 1 _ v1 rfl rfl) h1
  have bd_bu1 := bounds_u32 wb1
  have bd_ra1 := bounds_u32 wr1
  clear hA0 hval0
  refine (creditSmooth_walk na nb bu1 ra1 Ga1 g1 cg1 Sa1 s1 cs1 W (Ro.of_arr1 hG1) (Ro.of_arr1 hS1) hg1 hs1 hmg1 hms1 (by omega)).mono fun e W' ⟨he, bel⟩ => ?_
  subst he
  exact ⟨_, rfl, _, _, _, [], _, [], hW', trodAll_mk1 (shut_bool Try.underlying4 _), (trodAll_cons_mk (Below.trod Try.laidOut (by kernel_rfl) (of_decide_eq_true (by kernel_rfl)) h0 bel lt0) (trodAll_cons_mk (Below.trod Try.laidOut (by kernel_rfl) (of_decide_eq_true (by kernel_rfl)) h1 bel lt1) trodAll_mk0)), rfl, bel.frame _, fun h => by cases h⟩

theorem proved : Rows.CreditSmoothSaid :=
  OpenClaim.holds_of_wide 8 Try.f8 rfl rfl rfl rfl rfl rfl rfl ⟨rfl, rfl, rfl, rfl, rfl⟩ rfl rfl rfl rfl rfl (by kernel_rfl) Try.func8 (by kernel_rfl)
    (of_decide_eq_true (by kernel_rfl)) (by unfold Func.isWrapper; first | (rw [if_pos (by decide +kernel)]; kernel_rfl) | (rw [if_neg (by decide +kernel)]; exact ⟨rfl, rfl⟩))
    (fun os started H enc _ => lifted os started H enc)
#print axioms proved
end Go.Proofs.Ytjepnlebmgkomaa.creditSmooth
