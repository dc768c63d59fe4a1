/-
  How more arguments open: two drafts, slices of booleans.
-/
import Derived.Test.YtoighcbbaacnaaaOpen
import Derived.Test.YtoighcbbaacnaaaEng
import Derived.Deep.Grids
namespace Go.Proofs.Ytoighcbbaacnaaa
set_option maxRecDepth 4000
open Go.ChangeShapes Go.WideShapes Go.ChangeAt Go.RowKit Go.Deep Go.Joins
set_option linter.unusedVariables false
theorem open_draft_cells {H : Type} {enc : TypeId × Value → H} {W : World} {t u s e : TypeId} {f0 f1 f2 f3 : Field} {cs : List Value} {x : DataW H × List MemPlace} {fuel : Nat} (ht : Try.prog.underlying t = some (.struct #[f0, f1, f2, f3])) (hone : oneCellFields Try.prog #[f0, f1, f2, f3] = true) (hC : Try.prog.cellsOf t = 4) (h0 : f0.type = u) (h1 : f1.type = u) (h2 : f2.type = s) (h3 : f3.type = s)
    (hu : Try.prog.underlying u = some (.int .u32)) (hs : Try.prog.underlying s = some (.slice e)) (he : Try.prog.underlying e = some (.int .u16)) (hec : Try.prog.cellsOf e = 1)
    (hl : cs.length = 4) (h : DataW.trod enc Try.prog W 0 (fun _ => true) true fuel t cs = some x) :
    ∃ (bu ra : Int) (Ga Sa : Option Addr) (gaps sizes : List Int) (cg c2 : Nat), cs = [.int .u32 bu, .int .u32 ra, .slice Ga gaps.length cg, .slice Sa sizes.length c2] ∧ (Lit.int .u32 bu).wf = true ∧ (Lit.int .u32 ra).wf = true ∧
      Arr1 .u16 W W.heap.size Ga gaps ∧ Arr1 .u16 W W.heap.size Sa sizes ∧ All16 gaps ∧ All16 sizes ∧ gaps.length ≤ 9223372036854775807 ∧ sizes.length ≤ 9223372036854775807 := by
  subst h0 h2
  match cs, hl with
  | [c0, c1, c2, c3], _ =>
    obtain ⟨y0, y1, y2, y3, n, hx, _, q0, q1, q2, q3⟩ := trod_struct4 ht h
    obtain ⟨o0, k0⟩ := hone_of hone 0 f0 rfl
    obtain ⟨o1, k1⟩ := hone_of hone 1 f1 rfl
    obtain ⟨o2, k2⟩ := hone_of hone 2 f2 rfl
    obtain ⟨o3, k3⟩ := hone_of hone 3 f3 rfl
    have r0 : DataW.trod enc Try.prog W 0 (fun _ => true) true n f0.type [c0] = some y0 := by simpa [o0, k0] using q0
    have r1 : DataW.trod enc Try.prog W 0 (fun _ => true) true n f1.type [c1] = some y1 := by simpa [o1, k1] using q1
    have r2 : DataW.trod enc Try.prog W 0 (fun _ => true) true n f2.type [c2] = some y2 := by simpa [o2, k2] using q2
    have r3 : DataW.trod enc Try.prog W 0 (fun _ => true) true n f3.type [c3] = some y3 := by simpa [o3, k3] using q3
    obtain ⟨x, e0, _, w0⟩ := DataW.trod_int hu r0
    rw [h1] at r1
    obtain ⟨y, e1, _, w1⟩ := DataW.trod_int hu r1
    injection e0 with e0 _
    injection e1 with e1 _
    subst e0 e1
    obtain ⟨Ga, gaps, cg, rfl, hG, hg1, hg2, hgw⟩ := open_is hs he hec (v := c2) (d := y2.1) (p := y2.2) r2
    rw [h3] at r3
    obtain ⟨Sa, sizes, c2', rfl, hS, hs1, hs2, hsw⟩ := open_is hs he hec (v := c3) (d := y3.1) (p := y3.2) r3
    exact ⟨x, y, Ga, Sa, gaps, sizes, cg, c2', rfl, w0, w1, hG, hS, fun z hz => bounds_u16 (hgw z hz), fun z hz => bounds_u16 (hsw z hz), by omega, by omega⟩
theorem open_drafts2 {H : Type} {enc : TypeId × Value → H} {W : World} {T t u s e : TypeId} {f0 f1 f2 f3 : Field} {r : Reach} {b0 : Nat} {v : Value} {d : DataW H} {p : List MemPlace} (hT : Try.prog.underlying T = some (.array 2 t)) (hT8 : Try.prog.cellsOf T = 8) (ht : Try.prog.underlying t = some (.struct #[f0, f1, f2, f3])) (hone : oneCellFields Try.prog #[f0, f1, f2, f3] = true) (hC : Try.prog.cellsOf t = 4) (h0 : f0.type = u) (h1 : f1.type = u) (h2 : f2.type = s) (h3 : f3.type = s)
    (hu : Try.prog.underlying u = some (.int .u32)) (hs : Try.prog.underlying s = some (.slice e)) (he : Try.prog.underlying e = some (.int .u16)) (hec : Try.prog.cellsOf e = 1)
    (hv : Value.okWide Try.prog W r b0 T v) (h : DataW.Trod enc Try.prog W 0 (fun _ => true) true T v d p) :
    ∃ (bu ra : Int) (Ga Sa : Option Addr) (gaps sizes : List Int) (cg cs : Nat) (bu' ra' : Int) (Ga' Sa' : Option Addr) (gaps' sizes' : List Int) (cg' cs' : Nat),
      v = .agg #[.int .u32 bu, .int .u32 ra, .slice Ga gaps.length cg, .slice Sa sizes.length cs, .int .u32 bu', .int .u32 ra', .slice Ga' gaps'.length cg', .slice Sa' sizes'.length cs'] ∧
      ((Lit.int .u32 bu).wf = true ∧ (Lit.int .u32 ra).wf = true ∧ Arr1 .u16 W W.heap.size Ga gaps ∧ Arr1 .u16 W W.heap.size Sa sizes ∧ All16 gaps ∧ All16 sizes ∧ gaps.length ≤ 9223372036854775807 ∧ sizes.length ≤ 9223372036854775807) ∧
      (Lit.int .u32 bu').wf = true ∧ (Lit.int .u32 ra').wf = true ∧ Arr1 .u16 W W.heap.size Ga' gaps' ∧ Arr1 .u16 W W.heap.size Sa' sizes' ∧ All16 gaps' ∧ All16 sizes' ∧ gaps'.length ≤ 9223372036854775807 ∧ sizes'.length ≤ 9223372036854775807 := by
  obtain ⟨cs, rfl, hsz⟩ := okWide_arr hT hv
  obtain ⟨fuel, hf⟩ := h
  obtain ⟨xs, m, _, _, hcl, hl, hi⟩ := DataW.trod_array hT hf
  obtain ⟨l⟩ := cs
  simp only [Value.cells] at hcl hi
  have hl8 : l.length = 8 := by rw [← hT8]; exact hcl
  have g0 := hi 0 (by omega)
  have g1 := hi 1 (by omega)
  rw [hC] at g0 g1
  rw [List.getElem?_eq_getElem (by omega)] at g0 g1
  obtain ⟨bu, ra, Ga, Sa, gaps, sizes, cg, c2, e1, k1⟩ := open_draft_cells ht hone hC h0 h1 h2 h3 hu hs he hec (by simp; omega) g0
  obtain ⟨bu', ra', Ga', Sa', gaps', sizes', cg', c2', e2, k2⟩ := open_draft_cells ht hone hC h0 h1 h2 h3 hu hs he hec (by simp; omega) g1
  have es : l = l.take 4 ++ (l.drop 4).take 4 := by rw [List.take_of_length_le (l := l.drop 4) (by simp; omega), List.take_append_drop]
  simp only [Nat.zero_mul, List.drop_zero] at e1
  simp only [Nat.one_mul] at e2
  rw [e1, e2] at es
  subst es
  exact ⟨bu, ra, Ga, Sa, gaps, sizes, cg, c2, bu', ra', Ga', Sa', gaps', sizes', cg', c2', rfl, k1, k2⟩
def bt (l : List Bool) (k : Nat) : Bool := l.getD k false
theorem bt_at {l : List Bool} {k : Nat} (h : k < l.length) : (l.map Value.bool)[k]? = some (.bool (bt l k)) := by
  simp [bt, List.getElem?_eq_getElem h, List.getD_eq_getElem?_getD]
theorem open_bs {H : Type} {enc : TypeId × Value → H} {W : World} {t e : TypeId} {v : Value} {d : DataW H} {p : List MemPlace} (ht : Try.prog.underlying t = some (.slice e)) (he : Try.prog.underlying e = some .bool) (hc : Try.prog.cellsOf e = 1)
    {fuel : Nat} (h : DataW.trod enc Try.prog W 0 (fun _ => true) true fuel t [v] = some (d, p)) :
    ∃ (A : Option Addr) (l : List Bool) (c : Nat), v = .slice A l.length c ∧ Ro W A (l.map Value.bool) ∧ l.length ≤ c ∧ c ≤ 9223372036854775807 := by
  rcases open_bools ht he hc h with ⟨hcs, _⟩ | ⟨a, len, cap, B, hcs, _, hl, hm, _, hcell⟩
  · injection hcs with hcs _
    exact ⟨none, [], 0, hcs, Ro.nil, Nat.le_refl _, by omega⟩
  · injection hcs with hcs _
    refine ⟨some a, (List.range len).map B, cap, by simpa using hcs, ?_, by simpa using hl, by unfold maxLen at hm; omega⟩
    intro j u hu
    rw [List.map_map, List.getElem?_map, Option.map_eq_some_iff] at hu
    obtain ⟨i, hi, rfl⟩ := hu
    obtain ⟨hj, e⟩ := List.getElem?_eq_some_iff.1 hi
    simp at hj e
    subst e
    obtain ⟨b, off, spot⟩ := a
    obtain rfl := zero_spot (hcell 0 (by omega))
    have g := hcell j (by omega)
    rw [addr_add] at g
    exact ⟨b, off, rfl, g⟩
end Go.Proofs.Ytoighcbbaacnaaa
