/-
  CurveDelays returns true for every input, and each argument reads afterwards as it read before. No conditions.
-/
import Derived.Test.YtoighcbbaacnaaaCurveDelaysW
import Derived.Test.YtoighcbbaacnaaaOpen3
import Derived.Test.YtoighcbbaacnaaaOpenFlat
import Derived.Test.YtoighcbbaacnaaaOpen
namespace Go.Proofs.Ytoighcbbaacnaaa.curveDelays
open Go.ChangeShapes Go.WideShapes Go.ChangeAt Go.RowKit Go.Deep Go.Joins
set_option linter.unusedVariables false

set_option maxRecDepth 100000 in
theorem lifted (os : Os) (started : os.Started) (H : Type) (enc : TypeId × Value → H) :
    ReturnsInHanded {} Try.checked os 4 .any (Rows.curveDelaysSpec.pre6 enc Try.prog Try.f4 Rows.curveDelaysRow.domain false) (Rows.curveDelaysSpec.post enc Try.prog Try.f4 false true false false) := by
  refine returnsInHanded_of_change (C := Try.checked) Try.own started (by kernel_rfl) Try.func4
    (ChangeSpec.witness6 (enc := enc) (C := Try.checked) false ⟨#[], #[.slice none 0 0, .slice none 0 0, .agg #[.int .i64 0, .int .i64 0], .agg #[.int .u32 0, .int .u32 0], .agg #[.int .i64 0, .int .i64 0]], []⟩ 8 (by kernel_rfl) (by kernel_rfl) (by kernel_rfl) (by kernel_rfl)) ?_
  intro W base args ds gs before hval0 hW hcnd _
  have hval : ∀ (j : Nat) t v, Try.f4.params[j]? = some t → args[j]? = some v → Value.okWide Try.prog W .any base t v := hval0
  have hW' := hW
  obtain ⟨p, q, hA0, hV, rfl, hfz, hnd⟩ := hW
  have hA : DataW.TrodAll enc Try.prog W 0 (fun _ => true) true Try.f4.params.toList args.toList ds p := hA0
  rw [Try.params4] at hA hval
  obtain ⟨v0, vs0, d0, ds0, p0, q0, hargs, rfl, rfl, h0, r0⟩ := trodAll_cons hA
  obtain ⟨v1, vs1, d1, ds1, p1, q1, rfl, rfl, rfl, h1, r1⟩ := trodAll_cons r0
  obtain ⟨v2, vs2, d2, ds2, p2, q2, rfl, rfl, rfl, h2, r2⟩ := trodAll_cons r1
  obtain ⟨v3, vs3, d3, ds3, p3, q3, rfl, rfl, rfl, h3, r3⟩ := trodAll_cons r2
  obtain ⟨v4, vs4, d4, ds4, p4, q4, rfl, rfl, rfl, h4, r4⟩ := trodAll_cons r3
  obtain ⟨rfl, rfl, rfl⟩ := trodAll_nil r4
  obtain rfl : args = #[v0, v1, v2, v3, v4] := by cases args; simp_all
  obtain ⟨rfl, rfl⟩ := trodVars_none hV
  have lt0 : ∀ x ∈ p0, x.block < W.heap.size := by obtain ⟨m, hm⟩ := h0; exact DataW.trod_lt m _ _ _ hm
  have lt1 : ∀ x ∈ p1, x.block < W.heap.size := by obtain ⟨m, hm⟩ := h1; exact DataW.trod_lt m _ _ _ hm
  have lt2 : ∀ x ∈ p2, x.block < W.heap.size := by obtain ⟨m, hm⟩ := h2; exact DataW.trod_lt m _ _ _ hm
  have lt3 : ∀ x ∈ p3, x.block < W.heap.size := by obtain ⟨m, hm⟩ := h3; exact DataW.trod_lt m _ _ _ hm
  have lt4 : ∀ x ∈ p4, x.block < W.heap.size := by obtain ⟨m, hm⟩ := h4; exact DataW.trod_lt m _ _ _ hm
  obtain ⟨sa0, sl0, sc0, rfl⟩ := okWide_slice Try.underlying35 (hval 0 _ v0 rfl rfl)
  obtain ⟨A0, l0, c0, e0, hl0, hlc0, hc0, hw0⟩ : ∃ (A : Option Addr) (l : List (Int × Int)) (c : Nat), Value.slice sa0 sl0 sc0 = .slice A l.length c ∧ Arr2 W W.heap.size A l ∧ l.length ≤ c ∧ c ≤ 9223372036854775807 ∧ ∀ x ∈ l, (Lit.int .i64 x.1).wf = true ∧ (Lit.int .i64 x.2).wf = true := by
    obtain ⟨fuel, hf⟩ := h0
    exact open_ps Try.underlying35 Try.underlying39 (by kernel_rfl) rfl rfl rfl rfl Try.underlying3 (by kernel_rfl) hf
  have hnl0 : A0 = none → l0.length = 0 ∧ c0 = 0 := by
    obtain ⟨fuel, hf⟩ := h0
    exact fun q => slice_nil Try.underlying35 hf e0 q
  rw [e0] at h0 hW' ⊢
  obtain ⟨sa1, sl1, sc1, rfl⟩ := okWide_slice Try.underlying36 (hval 1 _ v1 rfl rfl)
  obtain ⟨A1, l1, c1, e1, hl1, hlc1, hc1, hw1⟩ : ∃ (A : Option Addr) (l : List D4) (c : Nat), Value.slice sa1 sl1 sc1 = .slice A l.length c ∧ Ro W A (flat4 l) ∧ l.length ≤ c ∧ c ≤ 9223372036854775807 ∧ ∀ k, k < l.length → (0 ≤ dq1 l k ∧ dq1 l k < 4294967296) ∧ (0 ≤ dq2 l k ∧ dq2 l k < 4294967296) := by
    obtain ⟨fuel, hf⟩ := h1
    exact open_ds Try.underlying36 Try.underlying42 (by kernel_rfl) (by kernel_rfl) rfl rfl rfl rfl Try.underlying24 Try.underlying40 Try.underlying62 (by kernel_rfl) hf
  rw [e1] at h1 hW' ⊢
  obtain ⟨cs2, rfl, ai2⟩ := open_flat (P := Try.prog) [.i64, .i64] (by kernel_rfl) (by kernel_rfl) (hval 2 _ v2 rfl rfl) h2
  obtain ⟨sa, rr2_0, rfl, wf_sa, ai2⟩ := ai2.cons
  obtain ⟨sb, rr2_1, rfl, wf_sb, ai2⟩ := ai2.cons
  obtain rfl := ai2.nil
  have bd_sa := bounds_i64 wf_sa
  have bd_sb := bounds_i64 wf_sb
  obtain ⟨cs3, rfl, ai3⟩ := open_flat (P := Try.prog) [.u32, .u32] (by kernel_rfl) (by kernel_rfl) (hval 3 _ v3 rfl rfl) h3
  obtain ⟨n0, rr3_0, rfl, wf_n0, ai3⟩ := ai3.cons
  obtain ⟨n1, rr3_1, rfl, wf_n1, ai3⟩ := ai3.cons
  obtain rfl := ai3.nil
  have bd_n0 := bounds_u32 wf_n0
  have bd_n1 := bounds_u32 wf_n1
  obtain ⟨cs4, rfl, ai4⟩ := open_flat (P := Try.prog) [.i64, .i64] (by kernel_rfl) (by kernel_rfl) (hval 4 _ v4 rfl rfl) h4
  obtain ⟨ba, rr4_0, rfl, wf_ba, ai4⟩ := ai4.cons
  obtain ⟨bb, rr4_1, rfl, wf_bb, ai4⟩ := ai4.cons
  obtain rfl := ai4.nil
  have bd_ba := bounds_i64 wf_ba
  have bd_bb := bounds_i64 wf_bb
  clear hA0 hval0
  refine (curveDelays_walk A0 l0 c0 A1 l1 c1 sa sb n0 n1 ba bb W (Ro.of_arr2 hl0) hlc0 hc0 hnl0 hl1 hw1 (by omega) (by omega)).mono fun e W' ⟨he, bel⟩ => ?_
  subst he
  exact ⟨_, rfl, _, _, _, [], _, [], hW', trodAll_mk1 (shut_bool Try.underlying4 _), (trodAll_cons_mk (Below.trod Try.laidOut (by kernel_rfl) (of_decide_eq_true (by kernel_rfl)) h0 bel lt0) (trodAll_cons_mk (Below.trod Try.laidOut (by kernel_rfl) (of_decide_eq_true (by kernel_rfl)) h1 bel lt1) (trodAll_cons_mk (Below.trod Try.laidOut (by kernel_rfl) (of_decide_eq_true (by kernel_rfl)) h2 bel lt2) (trodAll_cons_mk (Below.trod Try.laidOut (by kernel_rfl) (of_decide_eq_true (by kernel_rfl)) h3 bel lt3) (trodAll_cons_mk (Below.trod Try.laidOut (by kernel_rfl) (of_decide_eq_true (by kernel_rfl)) h4 bel lt4) trodAll_mk0))))), rfl, bel.frame _, fun h => by cases h⟩

theorem proved : Rows.CurveDelaysSaid :=
  OpenClaim.holds_of_wide 4 Try.f4 rfl rfl rfl rfl rfl rfl rfl ⟨rfl, rfl, rfl, rfl, rfl⟩ rfl rfl rfl rfl rfl (by kernel_rfl) Try.func4 (by kernel_rfl)
    (of_decide_eq_true (by kernel_rfl)) (by unfold Func.isWrapper; first | (rw [if_pos (by decide +kernel)]; kernel_rfl) | (rw [if_neg (by decide +kernel)]; exact ⟨rfl, rfl⟩))
    (fun os started H enc _ => lifted os started H enc)
#print axioms proved
end Go.Proofs.Ytoighcbbaacnaaa.curveDelays
