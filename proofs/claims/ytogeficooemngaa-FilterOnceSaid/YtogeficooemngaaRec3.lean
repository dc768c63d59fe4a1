/-
  append to a full slice that can be read only; a slice with three bounds.
-/
import Derived.Test.YtogeficooemngaaRec2
namespace Go.Proofs.Ytogeficooemngaa
open Go.RowKit
set_option linter.unusedVariables false
set_option linter.unusedSimpArgs false
section
variable {P : Program} {n B : Nat} {F : List (Nat × Option Value)} {L : List (Nat × Option Ent)} {a : Act} {w w0 : World} {o : Oper} {ops : Array Oper} {Q : Exit → Act → World → Prop} {K : Act → World → Prop} {C : World → Prop}
theorem yld_slice3 {t e len cap m c : Nat} {x y u : Operand} {A : Option Addr} {i j : Int} (hF : Fr n F a) (ho : o.op = .slice t x none (some y) (some u)) (hk : known F o = true) (hx : evF F x = .slice A len cap) (hy : evF F y = .int .i64 i) (hu' : evF F u = .int .i64 j) (hu : P.underlying t = some (.slice e)) (hs : (P.info? e).isSome = true) (hm : i = (m : Int)) (hj : j = (c : Int)) (hmc : m ≤ c) (hc : c ≤ cap) : Yld P o a C (.slice A m c) := by
  intro w _
  unfold Oper.quietAt
  rw [hF.exec hk]
  obtain ⟨q, hq⟩ := Option.isSome_iff_exists.1 hs
  have h0 : ((0 : Int) ≤ (m : Int) ∧ (m : Int) ≤ (c : Int)) := by omega
  have h1 : ((0 : Int) ≤ (c : Int) ∧ (c : Int) ≤ (cap : Int)) := by omega
  have hA : (if c = 0 then A else A.map (·.add (0 * q.size))) = A := by
    split
    · rfl
    · cases A <;> simp [Addr.add]
  subst hm hj
  simp [execOp, ho, hx, hy, hu', Instr.sliceAt, Instr.slice, run_underlying hu, Instr.sliceBounds, Instr.sliceBound, asIntOf, h0, h1, hmc, hc, sizeOf, typeInfo, hq, hA, Oper.quietUpon, Addr.add]
theorem grown_own {base e : Nat} {i : TypeInfo} {z : Value} {xs news : List Value} {l m old : Nat} (hzs : z.cells.size = i.size) (hx : xs.length = l * i.size) (hl : news.length = m * i.size) (h63 : l + m ≤ maxLen) (hbase : base ≤ w.heap.size) :
    (w.drew.alloc (.cells (xs.toArray ++ news.toArray ++ Builtin.zeroCells z.cells (grownCap w (l + m) old e - (l + m))) e)).ownsRow base e i.size (.slice (some ⟨w.heap.size, 0, none⟩) (l + m) (grownCap w (l + m) old e)) (l + m) (xs ++ news) ∧
    w.grownBy (w.drew.alloc (.cells (xs.toArray ++ news.toArray ++ Builtin.zeroCells z.cells (grownCap w (l + m) old e - (l + m))) e)) none := by
  have hlen : (xs ++ news).length = (l + m) * i.size := by rw [List.length_append, hx, hl, Nat.add_mul]
  have hge := grownCap_ge w (l + m) old e
  have hcm : grownCap w (l + m) old e ≤ maxLen := grownCap_le_maxLen w (l + m) old e h63
  refine ⟨⟨hlen, .inr ⟨w.heap.size, _, _, rfl, hbase, heap_alloc_new w.drew _, hge, hcm, ?_, ?_⟩⟩, ⟨rfl, rfl, rfl, by simp, fun k hk _ => heap_alloc_old w.drew _ hk⟩⟩
  · simp only [Array.size_append, List.size_toArray, size_zeroCells, hzs, hx, hl, ← Nat.add_mul]
    congr 1
    omega
  · simp only [Array.toList_append, List.append_assoc]
    rw [← List.append_assoc, ← hlen]
    exact List.take_left
/-- append to a slice without room: a new row. -/
theorem sAppG (d k : Nat) {t e size bytes m c l : Nat} {s x : Operand} {z : Value} {A : Option Addr} {ad : Addr} {xs news : List Value} (xs' : List Value) (hF : Fr n F a) (hM : Mem B w0 L w) (h : okO n ops F o d = true) (ho : o.op = .call { callee := .builtin .append, args := #[s, x], argTypes := #[t, t] })
    (hs : evF F s = .slice A l l) (hx : evF F x = .slice (some ad) m c) (ht : tyE P t = some (e, size, bytes, z)) (hzs : z.cells.size = size) (hsz : Nat.blt 0 size = true)
    (hxl : xs.length = l * size) (hro0 : ∀ w, Mem B w0 L w → Ro w A xs) (hn0 : A = none → l = 0) (hl : news.length = m * size) (hro : ∀ w, Mem B w0 L w → Ro w (some ad) news) (hm : 0 < m) (hlen : l + m ≤ 1000000) (hby : bytes ≤ 1000000) (hxs : xs ++ news = xs')
    (kk : ∀ A' cap' a' w', Fr n ((d, some (.slice A' (l + m) cap')) :: F) a' → Mem B w0 ((k, some (.own (.slice A' (l + m) cap') e size (l + m) xs')) :: L) w' → K a' w') : One P ops Q o K a w := by
  subst hxs
  obtain ⟨h1', h2, h3, h4⟩ := okO_spec h
  obtain ⟨hu, i, hinf, hz, hsize, hbytes⟩ := tyE_spec ht
  subst hsize
  have hold := hro0 w hM
  have hread := hro w hM
  have hprod : (l + m) * bytes ≤ 1000000 * 1000000 := Nat.mul_le_mul hlen hby
  have hn63 : l + m ≤ maxLen := by unfold maxLen; omega
  have hnews : ∀ j u, news[j]? = some u → w.cell? (ad.add j) = some u := fun j u hu => by
    obtain ⟨b, off, e1, hc⟩ := hread j u hu
    injection e1 with e1
    subst e1
    rw [add_at]
    exact hc
  have fin : ∀ old w' v, (Builtin.append_ #[t, t] o.type #[.slice A l l, .slice (some ad) m c]).run P w = .ok v w' → v = .slice (some ⟨w.heap.size, 0, none⟩) (l + m) (grownCap w (l + m) old e) → w' = (w.drew.alloc (.cells (xs.toArray ++ news.toArray ++ Builtin.zeroCells z.cells (grownCap w (l + m) old e - (l + m))) e)) → One P ops Q o K a w := fun old w' v hr hv hw => by
    subst hv hw
    obtain ⟨hown, hg⟩ := grown_own (w := w) (base := w.heap.size) (e := e) (old := old) hzs hxl hl hn63 (Nat.le_refl _)
    refine sW hF h3 h1' h2 h4 (v := .slice (some ⟨w.heap.size, 0, none⟩) (l + m) (grownCap w (l + m) old e)) (w' := _) ?_ fun a' ha => kk _ _ a' _ ha (hM.fresh ⟨hg.os, hg.tape, hg.output, hg.size, fun k hk => hg.block k hk (by simp)⟩ k (own_base hown hM.lo) fun b hb => (own_lt hown hb).1)
    simp [execOp, ho, resolve, invoke, builtin, hs, hx, hr]
  cases A with
  | none =>
    have h0 := hn0 rfl
    subst h0
    have hx0 : xs = [] := List.length_eq_zero_iff.1 (by simpa using hxl)
    have hr := run_append_nil (P := P) w t o.type e i z hu hinf hz ad m c news hl hnews hm (by omega) (by subst hbytes; simp only [Nat.zero_add] at hprod; omega)
    exact fin 0 _ _ hr (by rw [Nat.zero_add]) (by subst hx0; simp)
  | some a0 =>
    have hb : ∀ j v, xs[j]? = some v → w.cell? (a0.add j) = some v := fun j u hu => by
      obtain ⟨b, off, e1, hc⟩ := hold j u hu
      injection e1 with e1
      subst e1
      rw [add_at]
      exact hc
    have hr := run_append_grow (P := P) w t o.type e i z hu hinf hz a0 l l xs hxl hb ad m c news hl hnews (by omega) (by omega) (growslice_fits (by omega) (by subst hbytes; omega))
    exact fin l _ _ hr rfl rfl
end
end Go.Proofs.Ytogeficooemngaa
