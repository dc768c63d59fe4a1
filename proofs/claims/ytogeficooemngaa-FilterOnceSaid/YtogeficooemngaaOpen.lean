/-
  How arguments open: slices of arrivals, slices of integers, structs of two ints, drafts, arrays of two numbers.
-/
import Derived.Test.YtogeficooemngaaRows
import Derived.Test.YtogeficooemngaaBase
import Derived.Test.YtogeficooemngaaDraftPlain
import Derived.ProofKit
import Derived.OpenShut
import Derived.ChangeOld
import Derived.Deep.SlicePairs
import Derived.Lib.SmallJoins
namespace Go.Proofs.Ytogeficooemngaa
set_option maxRecDepth 4000
open Go.ChangeShapes Go.WideShapes Go.ChangeAt Go.RowKit Go.Deep Go.Joins
set_option linter.unusedVariables false

theorem Try.own : ownKnob Try.prog.godebug = none := by kernel_rfl
theorem Try.laidOut : laidOutB Try.prog = true := by kernel_rfl

section
variable {H : Type} {enc : TypeId × Value → H} {W : World} {base : Nat}
theorem addr_add (b off i : Nat) : (⟨b, off, none⟩ : Addr).add i = ⟨b, off + i, none⟩ := by
  unfold Addr.add
  split
  · simp_all
  · simp
theorem zero_spot {b off : Nat} {spot} {v : Value} (h : W.cell? ((⟨b, off, spot⟩ : Addr).add 0) = some v) : spot = none := by
  have := World.cell?_spot h
  unfold Addr.add at this
  simpa using this
theorem int_bounds {x : Int} (h : (Lit.int .i64 x).wf = true) : -9223372036854775808 ≤ x ∧ x ≤ 9223372036854775807 := by
  have := bounds_i64 h
  omega
theorem open_is {k : IntKind} {t e : TypeId} {v : Value} {d : DataW H} {p : List MemPlace} (ht : Try.prog.underlying t = some (.slice e)) (he : Try.prog.underlying e = some (.int k)) (hc : Try.prog.cellsOf e = 1)
    {fuel : Nat} (h : DataW.trod enc Try.prog W 0 (fun _ => true) true fuel t [v] = some (d, p)) :
    ∃ (A : Option Addr) (l : List Int) (c : Nat), v = .slice A l.length c ∧ Arr1 k W W.heap.size A l ∧ l.length ≤ c ∧ c ≤ 9223372036854775807 ∧ ∀ x ∈ l, (Lit.int k x).wf = true := by
  rcases open_ints ht he hc h with ⟨hcs, _⟩ | ⟨a, len, cap, zs, hcs, _, hl, hm, hz, _, hcell, hwz⟩
  · injection hcs with hcs _
    exact ⟨none, [], 0, hcs, Arr1.nil, Nat.le_refl _, by omega, fun x hx => by simp at hx⟩
  · injection hcs with hcs _
    have hz' : zs.length = cap := by simpa using hz
    have hlen : (zs.take len).length = len := by rw [List.length_take]; omega
    refine ⟨some a, zs.take len, cap, by rw [hlen]; exact hcs, ?_, by omega, by unfold maxLen at hm; omega, fun x hx => hwz x (List.mem_of_mem_take hx)⟩
    intro j x hx
    have hj : j < len := by have := (List.getElem?_eq_some_iff.1 hx).1; omega
    rw [List.getElem?_take, if_pos hj] at hx
    have hc' := hcell j (by omega)
    rw [List.getD_eq_getElem?_getD, hx] at hc'
    obtain ⟨b, off, spot⟩ := a
    obtain rfl := zero_spot (hcell 0 (by omega))
    rw [addr_add] at hc'
    exact ⟨b, off, rfl, World.block_lt_of_cell? W _ hc', hc'⟩
theorem open_ps {t e f : TypeId} {f0 f1 : Field} {v : Value} {d : DataW H} {p : List MemPlace} (ht : Try.prog.underlying t = some (.slice e)) (he : Try.prog.underlying e = some (.struct #[f0, f1])) (hc : Try.prog.cellsOf e = 2)
    (h0 : f0.type = f) (h1 : f1.type = f) (o0 : f0.offset = 0) (o1 : f1.offset = 1) (hf : Try.prog.underlying f = some (.int .i64)) (hfc : Try.prog.cellsOf f = 1)
    {fuel : Nat} (h : DataW.trod enc Try.prog W 0 (fun _ => true) true fuel t [v] = some (d, p)) :
    ∃ (A : Option Addr) (l : List (Int × Int)) (c : Nat), v = .slice A l.length c ∧ Arr2 W W.heap.size A l ∧ l.length ≤ c ∧ c ≤ 9223372036854775807 ∧ ∀ x ∈ l, (Lit.int .i64 x.1).wf = true ∧ (Lit.int .i64 x.2).wf = true := by
  subst h0
  rcases open_slice_pairs ht he hc o0 o1 hfc (by rw [h1]; exact hfc) h with ⟨hcs, _⟩ | ⟨a, len, cap, m, n, V0, V1, D0, D1, P0, P1, hcs, _, hl, hm, hmm, _, hcell⟩
  · injection hcs with hcs _
    exact ⟨none, [], 0, hcs, Arr2.nil, Nat.le_refl _, by omega, fun x hx => by simp at hx⟩
  · injection hcs with hcs _
    have hm' : m = cap := by simpa using hmm
    have each : ∀ i, i < m → ∃ q : Int × Int, W.cell? (a.add (i * 2)) = some (.int .i64 q.1) ∧ W.cell? (a.add (i * 2 + 1)) = some (.int .i64 q.2) ∧ (Lit.int .i64 q.1).wf = true ∧ (Lit.int .i64 q.2).wf = true := fun i hi => by
      obtain ⟨g0, g1, r0, r1⟩ := hcell i hi
      obtain ⟨x0, e0, _, w0⟩ := DataW.trod_int hf r0
      rw [h1] at r1
      obtain ⟨x1, e1, _, w1⟩ := DataW.trod_int hf r1
      injection e0 with e0 _
      injection e1 with e1 _
      rw [e0] at g0
      rw [e1] at g1
      exact ⟨(x0, x1), g0, g1, w0, w1⟩
    have pick : ∃ q : Nat → Int × Int, ∀ i, i < m → W.cell? (a.add (i * 2)) = some (.int .i64 (q i).1) ∧ W.cell? (a.add (i * 2 + 1)) = some (.int .i64 (q i).2) ∧ (Lit.int .i64 (q i).1).wf = true ∧ (Lit.int .i64 (q i).2).wf = true := by
      refine ⟨fun i => if hi : i < m then Classical.choose (each i hi) else (0, 0), fun i hi => ?_⟩
      simp only [hi, dif_pos]
      exact Classical.choose_spec (each i hi)
    obtain ⟨q, hq⟩ := pick
    refine ⟨some a, (List.range len).map q, cap, by simpa using hcs, ?_, by simpa using hl, by unfold maxLen at hm; omega, fun x hx => ?_⟩
    · intro j x hx
      have hj : j < len := by have := (List.getElem?_eq_some_iff.1 hx).1; simpa using this
      have hx' : x = q j := by
        rw [List.getElem?_map, List.getElem?_range hj] at hx
        simpa using hx.symm
      subst hx'
      obtain ⟨g0, g1, _, _⟩ := hq j (by omega)
      obtain ⟨b, off, spot⟩ := a
      obtain rfl := zero_spot (by simpa using (hq 0 (by omega)).1)
      rw [addr_add] at g0
      rw [addr_add, ← Nat.add_assoc] at g1
      exact ⟨b, off, rfl, World.block_lt_of_cell? W _ g0, g0, g1⟩
    · obtain ⟨i, hi, rfl⟩ := List.mem_map.1 hx
      exact ⟨(hq i (by have := List.mem_range.1 hi; omega)).2.2.1, (hq i (by have := List.mem_range.1 hi; omega)).2.2.2⟩
theorem okWide_arr {P : Program} {w : World} {r : Reach} {b0 n : Nat} {t e : TypeId} {v : Value} (ht : P.underlying t = some (.array n e)) (h : Value.okWide P w r b0 t v) : ∃ cs, v = .agg cs ∧ cs.size = P.cellsOf t := by
  simp only [Value.okWide, ht] at h
  obtain ⟨cs, h1, h2, _⟩ := h
  exact ⟨cs, h1, h2⟩
theorem open_two {k : IntKind} {t e : TypeId} {r : Reach} {b0 : Nat} {v : Value} {d : DataW H} {p : List MemPlace} (ht : Try.prog.underlying t = some (.array 2 e)) (he : Try.prog.underlying e = some (.int k)) (hc : Try.prog.cellsOf e = 1) (hc2 : Try.prog.cellsOf t = 2)
    (hv : Value.okWide Try.prog W r b0 t v) (h : DataW.Trod enc Try.prog W 0 (fun _ => true) true t v d p) :
    ∃ x y : Int, v = .agg #[.int k x, .int k y] ∧ (Lit.int k x).wf = true ∧ (Lit.int k y).wf = true := by
  obtain ⟨cs, rfl, hsz⟩ := okWide_arr ht hv
  obtain ⟨c0, c1, rfl⟩ := array2 (hsz.trans hc2)
  obtain ⟨fuel, hf⟩ := h
  obtain ⟨xs, m, _, _, _, hl, hi⟩ := DataW.trod_array ht hf
  have g0 := hi 0 (by omega)
  have g1 := hi 1 (by omega)
  rw [hc] at g0 g1
  simp only [Value.cells, Nat.one_mul, List.take, List.drop] at g0 g1
  rw [List.getElem?_eq_getElem (by omega)] at g0 g1
  obtain ⟨x, e0, _, w0⟩ := DataW.trod_int he g0
  obtain ⟨y, e1, _, w1⟩ := DataW.trod_int he g1
  injection e0 with e0 _
  injection e1 with e1 _
  subst e0 e1
  exact ⟨x, y, rfl, w0, w1⟩
theorem open_three {k : IntKind} {t e : TypeId} {r : Reach} {b0 : Nat} {v : Value} {d : DataW H} {p : List MemPlace} (ht : Try.prog.underlying t = some (.array 3 e)) (he : Try.prog.underlying e = some (.int k)) (hc : Try.prog.cellsOf e = 1) (hc2 : Try.prog.cellsOf t = 3)
    (hv : Value.okWide Try.prog W r b0 t v) (h : DataW.Trod enc Try.prog W 0 (fun _ => true) true t v d p) :
    ∃ x y z : Int, v = .agg #[.int k x, .int k y, .int k z] ∧ (Lit.int k x).wf = true ∧ (Lit.int k y).wf = true ∧ (Lit.int k z).wf = true := by
  obtain ⟨cs, rfl, hsz⟩ := okWide_arr ht hv
  obtain ⟨c0, c1, c2, rfl⟩ := array3 (hsz.trans hc2)
  obtain ⟨fuel, hf⟩ := h
  obtain ⟨xs, m, _, _, _, hl, hi⟩ := DataW.trod_array ht hf
  have g0 := hi 0 (by omega)
  have g1 := hi 1 (by omega)
  have g2 := hi 2 (by omega)
  rw [hc] at g0 g1 g2
  simp only [Value.cells, List.take, List.drop] at g0 g1 g2
  rw [List.getElem?_eq_getElem (by omega)] at g0 g1 g2
  obtain ⟨x, e0, _, w0⟩ := DataW.trod_int he g0
  obtain ⟨y, e1, _, w1⟩ := DataW.trod_int he g1
  obtain ⟨z, e2, _, w2⟩ := DataW.trod_int he g2
  injection e0 with e0 _
  injection e1 with e1 _
  injection e2 with e2 _
  subst e0 e1 e2
  exact ⟨x, y, z, rfl, w0, w1, w2⟩
theorem open_pair_ {t f : TypeId} {f0 f1 : Field} {r : Reach} {b0 : Nat} {v : Value} {d : DataW H} {p : List MemPlace} (ht : Try.prog.underlying t = some (.struct #[f0, f1])) (hone : oneCellFields Try.prog #[f0, f1] = true) (hC : Try.prog.cellsOf t = 2) (h0 : f0.type = f) (h1 : f1.type = f) (hf : Try.prog.underlying f = some (.int .i64))
    (hv : Value.okWide Try.prog W r b0 t v) (h : DataW.Trod enc Try.prog W 0 (fun _ => true) true t v d p) :
    ∃ x y : Int, v = .agg #[.int .i64 x, .int .i64 y] ∧ (Lit.int .i64 x).wf = true ∧ (Lit.int .i64 y).wf = true := by
  subst h0
  obtain ⟨v0, v1, y0, y1, n, rfl, _, _, q0, q1⟩ := open_agg2 ht hone hC hv h
  obtain ⟨x, e0, _, w0⟩ := DataW.trod_int hf q0
  rw [h1] at q1
  obtain ⟨y, e1, _, w1⟩ := DataW.trod_int hf q1
  injection e0 with e0 _
  injection e1 with e1 _
  subst e0 e1
  exact ⟨x, y, rfl, w0, w1⟩
theorem open_draft {t u s e : TypeId} {f0 f1 f2 f3 : Field} {r : Reach} {b0 : Nat} {v : Value} {d : DataW H} {p : List MemPlace} (ht : Try.prog.underlying t = some (.struct #[f0, f1, f2, f3])) (hone : oneCellFields Try.prog #[f0, f1, f2, f3] = true) (hC : Try.prog.cellsOf t = 4) (h0 : f0.type = u) (h1 : f1.type = u) (h2 : f2.type = s) (h3 : f3.type = s)
    (hu : Try.prog.underlying u = some (.int .u32)) (hs : Try.prog.underlying s = some (.slice e)) (he : Try.prog.underlying e = some (.int .u16)) (hec : Try.prog.cellsOf e = 1)
    (hv : Value.okWide Try.prog W r b0 t v) (h : DataW.Trod enc Try.prog W 0 (fun _ => true) true t v d p) :
    ∃ (bu ra : Int) (Ga Sa : Option Addr) (gaps sizes : List Int) (cg cs : Nat), v = .agg #[.int .u32 bu, .int .u32 ra, .slice Ga gaps.length cg, .slice Sa sizes.length cs] ∧ (Lit.int .u32 bu).wf = true ∧ (Lit.int .u32 ra).wf = true ∧
      Arr1 .u16 W W.heap.size Ga gaps ∧ Arr1 .u16 W W.heap.size Sa sizes ∧ All16 gaps ∧ All16 sizes ∧ gaps.length ≤ 9223372036854775807 ∧ sizes.length ≤ 9223372036854775807 := by
  subst h0 h2
  obtain ⟨v0, v1, v2, v3, y0, y1, y2, y3, n, rfl, _, _, q0, q1, q2, q3⟩ := open_agg4 ht hone hC hv h
  obtain ⟨x, e0, _, w0⟩ := DataW.trod_int hu q0
  rw [h1] at q1
  obtain ⟨y, e1, _, w1⟩ := DataW.trod_int hu q1
  injection e0 with e0 _
  injection e1 with e1 _
  subst e0 e1
  obtain ⟨Ga, gaps, cg, rfl, hG, hg1, hg2, hgw⟩ := open_is hs he hec (v := v2) (d := y2.1) (p := y2.2) q2
  rw [h3] at q3
  obtain ⟨Sa, sizes, cs, rfl, hS, hs1, hs2, hsw⟩ := open_is hs he hec (v := v3) (d := y3.1) (p := y3.2) q3
  exact ⟨x, y, Ga, Sa, gaps, sizes, cg, cs, rfl, w0, w1, hG, hS, fun z hz => bounds_u16 (hgw z hz), fun z hz => bounds_u16 (hsw z hz), by omega, by omega⟩
end
end Go.Proofs.Ytogeficooemngaa
