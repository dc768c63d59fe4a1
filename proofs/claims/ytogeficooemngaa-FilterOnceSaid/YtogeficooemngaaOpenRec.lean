/-
  How a slice of structs of integers opens, and a struct of five fields with such slices.
-/
import Derived.Test.YtogeficooemngaaOpen
import Derived.Test.YtogeficooemngaaOpenFlat
import Derived.Test.YtogeficooemngaaRec
namespace Go.Proofs.Ytogeficooemngaa
set_option maxRecDepth 10000
open Go.ChangeShapes Go.WideShapes Go.ChangeAt Go.RowKit Go.Deep Go.Joins
set_option linter.unusedVariables false
set_option linter.unusedSimpArgs false
def kRow (ks : List IntKind) (x : List Int) : List Value := List.zipWith Value.int ks x
def flatK (ks : List IntKind) (l : List (List Int)) : List Value := l.flatMap (kRow ks)
theorem kRow_len {ks : List IntKind} {x : List Int} (h : x.length = ks.length) : (kRow ks x).length = ks.length := by simp [kRow, h]
theorem flatK_length {ks : List IntKind} : ∀ {l : List (List Int)}, WR ks.length l → (flatK ks l).length = l.length * ks.length
  | [], _ => by simp [flatK]
  | x :: r, h => by
    have ih := flatK_length h.tail
    have h0 := kRow_len h.head
    simp only [flatK, List.flatMap_cons, List.length_append, List.length_cons] at *
    rw [ih, h0, Nat.succ_mul]
    omega
theorem flatK_at {ks : List IntKind} : ∀ {l : List (List Int)} {k i : Nat}, WR ks.length l → k < l.length → i < ks.length → (flatK ks l)[k * ks.length + i]? = (kRow ks ((l[k]?).getD []))[i]?
  | x :: r, 0, i, h, _, hi => by
    have h0 := kRow_len h.head
    simp only [flatK, List.flatMap_cons, Nat.zero_mul, Nat.zero_add]
    rw [List.getElem?_append_left (by omega)]
    rfl
  | x :: r, k + 1, i, h, hk, hi => by
    have h0 := kRow_len h.head
    have ih := flatK_at (i := i) h.tail (k := k) (by simpa using hk) hi
    simp only [flatK, List.flatMap_cons]
    rw [List.getElem?_append_right (by rw [h0, Nat.succ_mul]; omega), show (k + 1) * ks.length + i - (kRow ks x).length = k * ks.length + i by rw [h0, Nat.succ_mul]; omega]
    exact ih
theorem rcK_at {ks : List IntKind} {l : List (List Int)} {k i : Nat} {kd : IntKind} (h : WR ks.length l) (hk : k < l.length) (hi : ks[i]? = some kd) : (flatK ks l)[k * ks.length + i]? = some (.int kd (rc l k i)) := by
  have hlt := (List.getElem?_eq_some_iff.1 hi).1
  rw [flatK_at h hk hlt]
  have hx := h l[k] (List.getElem_mem hk)
  unfold kRow rc
  rw [List.getElem?_eq_getElem hk, Option.getD_some, List.getElem?_zipWith, hi, List.getElem?_eq_getElem (by omega)]
  simp [List.getD_eq_getElem?_getD, List.getElem?_eq_getElem (show i < l[k].length by omega)]
theorem rcK_sub {ks : List IntKind} {l : List (List Int)} {k f : Nat} {us : List Value} (h : WR ks.length l) (hk : k < l.length) (hu : us = (ks.drop f).zipIdx.map fun q => Value.int q.1 (rc l k (f + q.2))) : ∀ i u, us[i]? = some u → (flatK ks l)[k * ks.length + f + i]? = some u := fun i u hi => by
  subst hu
  rw [List.getElem?_map, List.getElem?_zipIdx, List.getElem?_drop] at hi
  cases hg : ks[f + i]? with
  | none => rw [hg] at hi; cases hi
  | some kd =>
    rw [hg] at hi
    simp at hi
    rw [Nat.add_assoc, rcK_at h hk hg, ← hi]
theorem flatK_sub {ks : List IntKind} {l : List (List Int)} (m : Nat) : ∀ (i : Nat) (u : Value), (flatK ks (l.take m))[i]? = some u → (flatK ks l)[i]? = some u := fun i u hu => by
  have e : flatK ks l = flatK ks (l.take m) ++ flatK ks (l.drop m) := by unfold flatK; rw [← List.flatMap_append, List.take_append_drop]
  rw [e, List.getElem?_append_left (List.getElem?_eq_some_iff.1 hu).1]
  exact hu
theorem kRow_i64 : ∀ {ks : List IntKind} {x : List Int}, (∀ k ∈ ks, k = .i64) → x.length = ks.length → kRow ks x = x.map (Value.int .i64)
  | [], [], _, _ => rfl
  | k :: ks, y :: x, h, hl => by
    have e := h k (List.mem_cons_self ..)
    have ih := kRow_i64 (fun q hq => h q (List.mem_cons_of_mem _ hq)) (x := x) (by simpa using hl)
    subst e
    unfold kRow at *
    rw [List.zipWith_cons_cons, ih]
    rfl
  | [], _ :: _, _, hl => by simp at hl
  | _ :: _, [], _, hl => by simp at hl
theorem flatK_R {ks : List IntKind} {l : List (List Int)} (h : WR ks.length l) (hk : ∀ k ∈ ks, k = .i64) : flatK ks l = flatR l := by
  induction l with
  | nil => rfl
  | cons x r ih =>
    have := ih h.tail
    unfold flatK flatR at *
    rw [List.flatMap_cons, List.flatMap_cons, this, kRow_i64 hk h.head]
def vI : Value → Int
  | .int _ x => x
  | _ => 0
theorem AllInts.row {ks : List IntKind} {cs : List Value} (h : AllInts ks cs) : (cs.map vI).length = ks.length ∧ cs = kRow ks (cs.map vI) ∧ ∀ i kd, ks[i]? = some kd → (Lit.int kd ((cs.map vI).getD i 0)).wf = true := by
  obtain ⟨hl, hp⟩ := h
  refine ⟨by simpa using hl, ?_, fun i kd hi => ?_⟩
  · apply List.ext_getElem?
    intro i
    unfold kRow
    rw [List.getElem?_zipWith]
    cases hi : ks[i]? with
    | none => rw [List.getElem?_eq_none (by rw [List.getElem?_eq_none_iff] at hi; omega)]
    | some kd =>
      obtain ⟨x, hx, _⟩ := hp i kd hi
      rw [List.getElem?_map, hx]
      rfl
  · obtain ⟨x, hx, hw⟩ := hp i kd hi
    rw [List.getD_eq_getElem?_getD, List.getElem?_map, hx]
    exact hw
theorem open_kr {H : Type} {enc : TypeId × Value → H} {W : World} {T t : TypeId} {ks : List IntKind} {v : Value} {d : DataW H} {p : List MemPlace} (hT : Try.prog.underlying T = some (.slice t)) (hk : kindsOf Try.prog 9 t = some ks) (hC : Try.prog.cellsOf t = ks.length) (hpos : 0 < ks.length)
    {fuel : Nat} (h : DataW.trod enc Try.prog W 0 (fun _ => true) true fuel T [v] = some (d, p)) :
    ∃ (A : Option Addr) (l : List (List Int)) (c : Nat), v = .slice A l.length c ∧ Ro W A (flatK ks l) ∧ WR ks.length l ∧ l.length ≤ c ∧ c ≤ 9223372036854775807 ∧ (∀ k, k < l.length → ∀ i kd, ks[i]? = some kd → (Lit.int kd (rc l k i)).wf = true) ∧ (A = none → l.length = 0 ∧ c = 0) := by
  rcases open_slice hT h with ⟨hcs, _⟩ | ⟨a, len, cap, m, n, D, Pl, hcs, _, hl, hm, hmm, _, hx⟩
  · injection hcs with hcs _
    exact ⟨none, [], 0, hcs, Ro.nil, (fun x hx => by cases hx), Nat.le_refl _, by omega, (fun k hk => by simp at hk), fun _ => ⟨rfl, rfl⟩⟩
  · injection hcs with hcs _
    have hm' : m = cap := by simpa using hmm
    have each : ∀ i, i < m → ∃ q : List Int, q.length = ks.length ∧ (∀ j, j < ks.length → W.cell? (a.add (i * ks.length + j)) = (kRow ks q)[j]?) ∧ ∀ j kd, ks[j]? = some kd → (Lit.int kd (q.getD j 0)).wf = true := fun i hi => by
      obtain ⟨cs', g1, g2⟩ := hx i hi
      rw [hC] at g1
      obtain ⟨_, hlen, hcell⟩ := World.cells?_some g1
      obtain ⟨r1, r2, r3⟩ := (trod_flat 9 t ks hk _ _ _ g2).row
      refine ⟨cs'.map vI, r1, fun j hj => ?_, r3⟩
      have := hcell j (by omega)
      rw [add_add] at this
      rw [this, ← r2]
    have pick : ∃ q : Nat → List Int, ∀ i, i < m → (q i).length = ks.length ∧ (∀ j, j < ks.length → W.cell? (a.add (i * ks.length + j)) = (kRow ks (q i))[j]?) ∧ ∀ j kd, ks[j]? = some kd → (Lit.int kd ((q i).getD j 0)).wf = true := by
      refine ⟨fun i => if hi : i < m then Classical.choose (each i hi) else [], fun i hi => ?_⟩
      simp only [hi, dif_pos]
      exact Classical.choose_spec (each i hi)
    obtain ⟨q, hq⟩ := pick
    have hlen : ((List.range len).map q).length = len := by simp
    have hat : ∀ k, k < len → (((List.range len).map q)[k]?).getD [] = q k := fun k hk => by simp [hk]
    have hWR : WR ks.length ((List.range len).map q) := fun x hx => by
      obtain ⟨k, hk, rfl⟩ := List.mem_map.1 hx
      exact (hq k (by have := List.mem_range.1 hk; omega)).1
    refine ⟨some a, (List.range len).map q, cap, by rw [hlen]; exact hcs, ?_, hWR, by rw [hlen]; exact hl, by unfold maxLen at hm; omega, fun k hk i kd hi => ?_, fun h => by cases h⟩
    · intro j u hu
      have hj : j < len * ks.length := by have := (List.getElem?_eq_some_iff.1 hu).1; rw [flatK_length hWR, hlen] at this; exact this
      have hd : j / ks.length < len := (Nat.div_lt_iff_lt_mul hpos).2 hj
      have hr : j % ks.length < ks.length := Nat.mod_lt _ hpos
      have hdm0 : j / ks.length < m := Nat.lt_of_lt_of_le hd (by omega)
      have h0m : 0 < m := Nat.lt_of_le_of_lt (Nat.zero_le _) hdm0
      have hdm : j / ks.length * ks.length + j % ks.length = j := Nat.div_add_mod' j _
      have g := flatK_at (k := j / ks.length) (i := j % ks.length) hWR (by rw [hlen]; exact hd) hr
      rw [hdm, hu, hat _ hd] at g
      have c := (hq (j / ks.length) hdm0).2.1 (j % ks.length) hr
      rw [← g, hdm] at c
      obtain ⟨b, off, spot⟩ := a
      have c0 := (hq 0 h0m).2.1 0 hpos
      have hk0 : ∃ v0, (kRow ks (q 0))[0]? = some v0 ∧ ∃ kd x, v0 = Value.int kd x := by
        have h0 := (hq 0 h0m).1
        refine ⟨_, List.getElem?_eq_getElem (by rw [kRow_len h0]; exact hpos), ?_⟩
        unfold kRow
        rw [List.getElem_zipWith]
        exact ⟨_, _, rfl⟩
      obtain ⟨v0, hv0, kd, x, rfl⟩ := hk0
      obtain rfl := zero_spot (v := .int kd x) (by rw [hv0] at c0; simpa using c0)
      rw [addr_add] at c
      exact ⟨b, off, rfl, c⟩
    · rw [hlen] at hk
      unfold rc
      rw [hat k hk]
      exact (hq k (by omega)).2.2 i kd hi
theorem rep_i64 {n : Nat} : ∀ k ∈ List.replicate n IntKind.i64, k = .i64 := fun k hk => List.eq_of_mem_replicate hk
/-- A slice of structs of n integers of int. -/
theorem open_rs {H : Type} {enc : TypeId × Value → H} {W : World} {T t : TypeId} {v : Value} {d : DataW H} {p : List MemPlace} (n : Nat) (hT : Try.prog.underlying T = some (.slice t)) (hk : kindsOf Try.prog 9 t = some (List.replicate n .i64)) (hC : Try.prog.cellsOf t = n) (hpos : 0 < n)
    {fuel : Nat} (h : DataW.trod enc Try.prog W 0 (fun _ => true) true fuel T [v] = some (d, p)) :
    ∃ (A : Option Addr) (l : List (List Int)) (c : Nat), v = .slice A l.length c ∧ Ro W A (flatR l) ∧ WR n l ∧ l.length ≤ c ∧ c ≤ 9223372036854775807 ∧ (∀ k, k < l.length → ∀ i, i < n → (Lit.int .i64 (rc l k i)).wf = true) ∧ (A = none → l.length = 0 ∧ c = 0) := by
  obtain ⟨A, l, c, h1, h2, h3, h4, h5, h6, h7⟩ := open_kr hT hk (by rw [List.length_replicate]; exact hC) (by rw [List.length_replicate]; exact hpos) h
  rw [flatK_R h3 rep_i64] at h2
  rw [List.length_replicate] at h3
  exact ⟨A, l, c, h1, h2, h3, h4, h5, fun k hk i hi => h6 k hk i .i64 (by simp [hi]), h7⟩
theorem open_is' {H : Type} {enc : TypeId × Value → H} {W : World} {T t : TypeId} {v : Value} {d : DataW H} {p : List MemPlace} (hT : Try.prog.underlying T = some (.slice t)) (hk : kindsOf Try.prog 9 t = some [.i64]) (hC : Try.prog.cellsOf t = 1)
    {fuel : Nat} (h : DataW.trod enc Try.prog W 0 (fun _ => true) true fuel T [v] = some (d, p)) :
    ∃ (A : Option Addr) (l : List Int) (c : Nat), v = .slice A l.length c ∧ Ro W A (l.map (Value.int .i64)) ∧ l.length ≤ c ∧ c ≤ 9223372036854775807 ∧ (∀ x ∈ l, (Lit.int .i64 x).wf = true) ∧ (A = none → l.length = 0 ∧ c = 0) := by
  obtain ⟨A, l, c, h1, h2, h3, h4, h5, h6, h7⟩ := open_rs 1 hT hk hC (by decide) h
  have e : flatR l = (l.map fun x => x.getD 0 0).map (Value.int .i64) := by
    clear h1 h2 h4 h5 h6 h7
    induction l with
    | nil => rfl
    | cons x r ih =>
      have := ih h3.tail
      have hx := h3.head
      unfold flatR at *
      rw [List.flatMap_cons, this]
      match x, hx with
      | [y], _ => rfl
  rw [e] at h2
  refine ⟨A, l.map fun x => x.getD 0 0, c, by rw [List.length_map]; exact h1, h2, by rw [List.length_map]; exact h4, h5, fun x hx => ?_, by rw [List.length_map]; exact h7⟩
  obtain ⟨y, hy, rfl⟩ := List.mem_map.1 hx
  obtain ⟨k, hk2, rfl⟩ := List.getElem_of_mem hy
  have := h6 k hk2 0 (by decide)
  unfold rc at this
  rw [List.getElem?_eq_getElem hk2] at this
  exact this
/-- A filter: two slices of records, an integer, a slice of integers, a slice of records. -/
theorem open_fil {H : Type} {enc : TypeId × Value → H} {W : World} {t : TypeId} {f0 f1 f2 f3 f4 : Field} {e0 e1 e3 e4 : TypeId} {v : Value} {d : DataW H} {p : List MemPlace} {r : Reach} {b1 : Nat} (ht : Try.prog.underlying t = some (.struct #[f0, f1, f2, f3, f4])) (hone : oneCellFields Try.prog #[f0, f1, f2, f3, f4] = true) (hC : Try.prog.cellsOf t = 5)
    (h0 : Try.prog.underlying f0.type = some (.slice e0)) (h1 : Try.prog.underlying f1.type = some (.slice e1)) (h2 : Try.prog.underlying f2.type = some (.int .i64)) (h3 : Try.prog.underlying f3.type = some (.slice e3)) (h4 : Try.prog.underlying f4.type = some (.slice e4))
    (k0 : kindsOf Try.prog 9 e0 = some (List.replicate 7 .i64)) (k1 : kindsOf Try.prog 9 e1 = some (List.replicate 5 .i64)) (k3 : kindsOf Try.prog 9 e3 = some [.i64]) (k4 : kindsOf Try.prog 9 e4 = some (List.replicate 3 .i64)) (c0 : Try.prog.cellsOf e0 = 7) (c1 : Try.prog.cellsOf e1 = 5) (c3 : Try.prog.cellsOf e3 = 1) (c4 : Try.prog.cellsOf e4 = 3)
    (hv : Value.okWide Try.prog W r b1 t v) (h : DataW.Trod enc Try.prog W 0 (fun _ => true) true t v d p) :
    ∃ (A : Option Addr) (la : List (List Int)) (ca : Nat) (A2 : Option Addr) (lq : List (List Int)) (cq_ : Nat) (now : Int) (A3 : Option Addr) (ls : List Int) (cs : Nat) (A4 : Option Addr) (lm : List (List Int)) (cm : Nat),
      v = .agg #[.slice A la.length ca, .slice A2 lq.length cq_, .int .i64 now, .slice A3 ls.length cs, .slice A4 lm.length cm] ∧ (Ro W A (flatR la) ∧ WR 7 la ∧ Ro W A2 (flatR lq) ∧ WR 5 lq ∧ Ro W A3 (ls.map (Value.int .i64)) ∧ Ro W A4 (flatR lm) ∧ WR 3 lm) ∧
      (Lit.int .i64 now).wf = true ∧ (la.length ≤ ca ∧ ca ≤ 9223372036854775807) ∧ (lq.length ≤ cq_ ∧ cq_ ≤ 9223372036854775807) ∧ (ls.length ≤ cs ∧ cs ≤ 9223372036854775807) ∧ (lm.length ≤ cm ∧ cm ≤ 9223372036854775807) ∧ (A3 = none → ls.length = 0 ∧ cs = 0) ∧ (A4 = none → lm.length = 0 ∧ cm = 0) := by
  obtain ⟨fuel, hf⟩ := h
  simp only [Value.okWide, ht] at hv
  obtain ⟨cs, hcs, _⟩ := hv
  subst hcs
  have hf' : DataW.trod enc Try.prog W 0 (fun _ => true) true fuel t cs.toList = some (d, p) := hf
  obtain ⟨xs, m, _, _, hlen, hxl, hi⟩ := DataW.trod_struct ht hf'
  rw [hC] at hlen
  obtain ⟨o0, g0⟩ := hone_of hone 0 f0 rfl
  obtain ⟨o1, g1⟩ := hone_of hone 1 f1 rfl
  obtain ⟨o2, g2⟩ := hone_of hone 2 f2 rfl
  obtain ⟨o3, g3⟩ := hone_of hone 3 f3 rfl
  obtain ⟨o4, g4⟩ := hone_of hone 4 f4 rfl
  obtain ⟨l, hl⟩ : ∃ l, cs.toList = l := ⟨_, rfl⟩
  rw [hl] at hlen hi hf'
  match l, hlen with
  | [v0, v1, v2, v3, v4], _ =>
    have q0 := hi 0 f0 rfl
    have q1 := hi 1 f1 rfl
    have q2 := hi 2 f2 rfl
    have q3 := hi 3 f3 rfl
    have q4 := hi 4 f4 rfl
    simp only [o0, o1, o2, o3, o4, g0, g1, g2, g3, g4, List.drop_zero, List.drop_succ_cons, List.take_succ_cons, List.take_zero] at q0 q1 q2 q3 q4
    have hx : xs.length = 5 := by simpa using hxl
    match xs, hx with
    | [y0, y1, y2, y3, y4], _ =>
      simp only [List.getElem?_cons_zero, List.getElem?_cons_succ] at q0 q1 q2 q3 q4
      obtain ⟨A, la, ca, rfl, a1, a2, a3, a4, _, _⟩ := open_rs 7 h0 k0 c0 (by decide) q0
      obtain ⟨A2, lq, cq_, rfl, b1, b2, b3, b4, _, _⟩ := open_rs 5 h1 k1 c1 (by decide) q1
      obtain ⟨now, e2, _, w2⟩ := DataW.trod_int h2 q2
      injection e2 with e2 _
      subst e2
      obtain ⟨A3, ls, cs3, rfl, d1, d2, d3, _, d5⟩ := open_is' h3 k3 c3 q3
      obtain ⟨A4, lm, cm, rfl, m1, m2, m3, m4, _, m6⟩ := open_rs 3 h4 k4 c4 (by decide) q4
      refine ⟨A, la, ca, A2, lq, cq_, now, A3, ls, cs3, A4, lm, cm, ?_, ⟨a1, a2, b1, b2, d1, m1, m2⟩, w2, ⟨a3, a4⟩, ⟨b3, b4⟩, ⟨d2, d3⟩, ⟨m3, m4⟩, d5, m6⟩
      rw [← Array.toArray_toList (xs := cs), hl]
end Go.Proofs.Ytogeficooemngaa
