/-
  Slices of records of integers: how they are written, made and copied; calls that hand back two slices.
-/
import Derived.Test.YtogeficooemngaaRec
import Derived.Laws.CopyRow
namespace Go.Proofs.Ytogeficooemngaa
open Go.RowKit
set_option linter.unusedVariables false
set_option linter.unusedSimpArgs false
/-- The cells us laid over xs from j on. -/
def putL : List Value → Nat → List Value → List Value
  | xs, _, [] => xs
  | xs, j, u :: us => putL (xs.set j u) (j + 1) us
theorem putL_length : ∀ (us xs : List Value) (j : Nat), (putL xs j us).length = xs.length
  | [], _, _ => rfl
  | u :: us, xs, j => by rw [putL, putL_length us]; simp
theorem putL_eq : ∀ (us xs : List Value) (j : Nat), j + us.length ≤ xs.length → putL xs j us = xs.take j ++ (us ++ xs.drop (j + us.length))
  | [], xs, j, _ => by simp [putL]
  | u :: us, xs, j, h => by
    simp only [List.length_cons] at h
    rw [putL, putL_eq us _ _ (by simp; omega)]
    have e1 : (xs.set j u).take (j + 1) = xs.take j ++ [u] := by
      rw [List.take_set, List.take_add_one, List.getElem?_eq_getElem (by omega), List.set_append_right _ _ (by simp; omega)]
      simp [show j - min j xs.length = 0 by omega]
    have e2 : (xs.set j u).drop (j + 1 + us.length) = xs.drop (j + (u :: us).length) := by
      rw [List.drop_set_of_lt (by omega)]
      congr 1
      simp
      omega
    rw [e1, e2]
    simp
theorem putL_append : ∀ (us as bs : List Value) (j : Nat), putL (as ++ bs) (as.length + j) us = as ++ putL bs j us
  | [], _, _, _ => rfl
  | u :: us, as, bs, j => by
    rw [putL, putL, List.set_append_right _ _ (by omega), show as.length + j - as.length = j by omega, Nat.add_assoc, putL_append us]
theorem flatR_set {n : Nat} : ∀ {l : List (List Int)} {k : Nat} {r : List Int}, WR n l → k < l.length → r.length = n → putL (flatR l) (k * n) (r.map (Value.int .i64)) = flatR (l.set k r)
  | x :: t, 0, r, h, _, hr => by
    have h0 := h.head
    simp only [flatR, List.flatMap_cons, List.set_cons_zero, Nat.zero_mul]
    rw [putL_eq _ _ _ (by simp; omega)]
    simp only [List.take_zero, List.nil_append, Nat.zero_add]
    rw [List.drop_append, List.drop_of_length_le (by simp; omega)]
    simp [h0, hr]
  | x :: t, k + 1, r, h, hk, hr => by
    have h0 := h.head
    have ih := flatR_set (l := t) (k := k) (r := r) h.tail (by simpa using hk) hr
    simp only [flatR, List.flatMap_cons, List.set_cons_succ] at *
    rw [← ih, show (k + 1) * n = (x.map (Value.int .i64)).length + k * n by simp; rw [h0, Nat.succ_mul]; omega, putL_append]
theorem WR.nil {n : Nat} : WR n [] := fun y hy => by cases hy
theorem WR.set {n k : Nat} {l : List (List Int)} {r : List Int} (h : WR n l) (hr : r.length = n) : WR n (l.set k r) := fun y hy => by
  rcases List.mem_or_eq_of_mem_set hy with h1 | rfl
  · exact h y h1
  · exact hr
theorem WR.app {n : Nat} {l m : List (List Int)} (h : WR n l) (hm : WR n m) : WR n (l ++ m) := fun y hy => by
  rcases List.mem_append.1 hy with h1 | h1
  · exact h y h1
  · exact hm y h1
theorem WR.one {n : Nat} {r : List Int} (hr : r.length = n) : WR n [r] := fun y hy => by
  rw [List.mem_singleton] at hy
  exact hy ▸ hr
theorem WR.rep {n m : Nat} {r : List Int} (hr : r.length = n) : WR n (List.replicate m r) := fun y hy => (List.eq_of_mem_replicate hy) ▸ hr
theorem WR.take {n m : Nat} {l : List (List Int)} (h : WR n l) : WR n (l.take m) := fun y hy => h y (List.mem_of_mem_take hy)
theorem flatR_append (l m : List (List Int)) : flatR (l ++ m) = flatR l ++ flatR m := by simp [flatR]
theorem flatR_one (l : List (List Int)) : ∀ u ∈ flatR l, u.oneCell' = true := fun u hu => by
  simp only [flatR, List.mem_flatMap, List.mem_map] at hu
  obtain ⟨_, _, _, _, rfl⟩ := hu
  rfl
theorem flatR_sub {n : Nat} : ∀ {l : List (List Int)} (m : Nat), WR n l → ∀ (i : Nat) (u : Value), (flatR (l.take m))[i]? = some u → (flatR l)[i]? = some u := fun {l} m h i u hu => by
  have e : flatR l = flatR (l.take m) ++ flatR (l.drop m) := by rw [← flatR_append, List.take_append_drop]
  rw [e, List.getElem?_append_left (List.getElem?_eq_some_iff.1 hu).1]
  exact hu
theorem made_wide (v : Value) (s m : Nat) (hs : 0 < s) : (madeCells (List.replicate s v).toArray (m * s)).toList = List.replicate (m * s) v := by
  apply List.ext_getElem?
  intro j
  by_cases hj : j < m * s
  · have : j % s < s := Nat.mod_lt _ hs
    simp [madeCells, hj, this]
  · simp [madeCells, hj]
theorem flatR_rep (m s : Nat) : flatR (List.replicate m (List.replicate s 0)) = List.replicate (m * s) (Value.int .i64 0) := by
  induction m with
  | zero => simp [flatR]
  | succ m ih =>
    rw [List.replicate_succ, flatR, List.flatMap_cons]
    unfold flatR at ih
    rw [ih, List.map_replicate, Nat.succ_mul, Nat.add_comm, List.replicate_append_replicate]
theorem made_R {z : Array Value} (s m : Nat) (hs : 0 < s) (hz : z = (List.replicate s (Value.int .i64 0)).toArray) : (madeCells z (m * s)).toList = flatR (List.replicate m (List.replicate s 0)) := by
  subst hz
  rw [made_wide _ _ _ hs, flatR_rep]
section
variable {P : Program} {n B : Nat} {F : List (Nat × Option Value)} {L : List (Nat × Option Ent)} {a : Act} {w w0 : World} {o : Oper} {ops : Array Oper} {Q : Exit → Act → World → Prop} {K : Act → World → Prop}
theorem own_cellsStored {k e size m cap g j : Nat} : ∀ (us : List Value) (i : Nat) {w : World} {L : List (Nat × Option Ent)} {xs : List Value}, Mem B w0 L w → look k L = some (.own (.slice (some ⟨g, 0, none⟩) m cap) e size m xs) → (∀ u ∈ us, u.oneCell' = true) → j + i + us.length ≤ xs.length →
    ∃ w', (storeCells ⟨g, j, none⟩ us i).run P w = .ok () w' ∧ Mem B w0 ((k, some (.own (.slice (some ⟨g, 0, none⟩) m cap) e size m (putL xs (j + i) us))) :: L) w'
  | [], i, w, L, xs, hM, hi, _, _ => ⟨w, rfl, hM.turn hi rfl (grown_refl w _) (hM.ok k _ hi) fun _ hb => .inl hb⟩
  | u :: us, i, w, L, xs, hM, hi, h1, hj => by
    simp only [List.length_cons] at hj
    have hown : w.ownsRow B e size (.slice (some ⟨g, 0, none⟩) m cap) m xs := hM.ok k _ hi
    have hlen := hown.1
    have hc0 : w.cell? ⟨g, j + i, none⟩ = some (xs[j + i]'(by omega)) := (hown.cellAt (j + i) (by omega)).trans (List.getElem?_eq_getElem (by omega))
    obtain ⟨hst, hgr⟩ := hown.stored (j + i) u
    have hf0 := hown.frozenAt (j + i)
    have hM1 := hM.turn (e' := .own (.slice (some ⟨g, 0, none⟩) m cap) e size m (xs.set (j + i) u)) hi rfl hgr hst fun _ hb => .inl hb
    obtain ⟨w', hr, hM2⟩ := own_cellsStored (j := j) (xs := xs.set (j + i) u) us (i + 1) hM1 (look_self _ _ _) (fun x hx => h1 x (List.mem_cons_of_mem _ hx)) (by rw [List.length_set]; omega)
    refine ⟨w', ?_, hM2.sub (Sub.mid _ _ _)⟩
    have hs1 : (store ((⟨g, j, none⟩ : Addr).add i) u).run P w = .ok () (w.setCell ⟨g, j + i, none⟩ u) := by rw [add_at]; exact run_store1 (h1 u (List.mem_cons_self ..)) hc0 hf0
    simp only [storeCells, Sem.run_bind, hs1, Result.andThen_ok]
    exact hr
/-- A store of several cells into a slice of the call's own. -/
theorem sStoreOM (k : Nat) {ty e size m cap j : Nat} {x y : Operand} {A : Option Addr} {xs : List Value} (us xs' : List Value) (hF : Fr n F a) (hM : Mem B w0 L w) (hg : wantF ops F o = some true) (hd : o.dst = none) (ho : o.op = .store ty x y) (hk : known F o = true) (hx : evF F x = .pointer (some (ea A j)))
    (hi : look k L = some (.own (.slice A m cap) e size m xs)) (hs : (P.info? ty).map (·.size) = some us.length) (hc : (evF F y).cells = us.toArray) (h1 : ∀ u ∈ us, u.oneCell' = true) (hp : 0 < us.length) (hj : j + us.length ≤ xs.length) (hxs : putL xs j us = xs')
    (kk : ∀ w', Mem B w0 ((k, some (.own (.slice A m cap) e size m xs')) :: L) w' → K a w') : One P ops Q o K a w := by
  have hown : w.ownsRow B e size (.slice A m cap) m xs := hM.ok k _ hi
  have hlen := hown.1
  have hm : 0 < m := by
    rcases Nat.eq_zero_or_pos m with h0 | h0
    · subst h0
      omega
    · exact h0
  obtain ⟨g, hA', _, _, _⟩ := own_cells hown hm
  subst hA'
  have hea : ea (some ⟨g, 0, none⟩) j = ⟨g, j, none⟩ := by simp [ea, gA]
  rw [hea] at hx
  obtain ⟨w', hr, hM2⟩ := own_cellsStored (P := P) (j := j) us 0 hM hi h1 (by omega)
  rw [Nat.add_zero, hxs] at hM2
  refine sW0 hF hg hd hk (w' := w') ?_ (kk _ hM2)
  cases hq : P.info? ty with
  | none => simp [hq] at hs
  | some q =>
    have hz : q.size = us.length := by simpa [hq] using hs
    have hvar : (storeVar ty ⟨g, j, none⟩ (evF F y)).run P w = .ok () w' := by
      unfold storeVar
      rw [hc]
      simp [sizeOf, typeInfo, hq, hz, hr]
    simp only [execOp, ho, hx, Instr.storeAt, Instr.sureAddr, Sem.run_bind, Sem.run_pure, Result.andThen_ok, hvar]
/-- copy of a whole slice that can be read into one of the call's own, of the same length. -/
theorem sCopyO (d k : Nat) {t t2 e size bytes m cap c : Nat} {s x : Operand} {z : Value} {A A2 : Option Addr} {xs news : List Value} (hF : Fr n F a) (hM : Mem B w0 L w) (h : okO n ops F o d = true) (ho : o.op = .call { callee := .builtin .copy, args := #[s, x], argTypes := #[t, t2] })
    (hs : evF F s = .slice A m cap) (hx : evF F x = .slice A2 m c) (ht : tyE P t = some (e, size, bytes, z)) (hsz : Nat.blt 0 size = true) (hi : look k L = some (.own (.slice A m cap) e size m xs))
    (hl : news.length = m * size) (hro : ∀ w, Mem B w0 L w → Ro w A2 news) (h1 : ∀ u ∈ news, u.oneCell' = true)
    (kk : ∀ a' w', Fr n ((d, some (.int .i64 (m : Int))) :: F) a' → Mem B w0 ((k, some (.own (.slice A m cap) e size m news)) :: L) w' → K a' w') : One P ops Q o K a w := by
  obtain ⟨h1', h2, h3, h4⟩ := okO_spec h
  obtain ⟨hu, i, hinf, hz, hsize, hbytes⟩ := tyE_spec ht
  have hown : w.ownsRow B e size (.slice A m cap) m xs := hM.ok k _ hi
  have hlen := hown.1
  have hread := hro w hM
  have hpos : 0 < size := Nat.le_of_ble_eq_true hsz
  rcases Nat.eq_zero_or_pos m with h0 | h0
  · subst h0
    have hn : news = [] := List.length_eq_zero_iff.1 (by rw [hl]; simp)
    have hx0 : xs = [] := List.length_eq_zero_iff.1 (by rw [hlen]; simp)
    subst hn hx0
    refine sW hF h3 h1' h2 h4 (v := .int .i64 (0 : Nat)) (w' := w) ?_ fun a' ha => kk a' w ha (hM.turn hi rfl (grown_refl w _) hown fun _ hb => .inl hb)
    have hl0 : ∀ (y : Addr), (loadCells y 0).run P w = .ok #[] w := fun y => by simpa using run_loadCells_list (P := P) w y [] (by simp)
    have hr : (Builtin.copy_ #[t, t2] o.type #[.slice A 0 cap, .slice A2 0 c]).run P w = .ok (goInt 0) w := by
      cases A <;> cases A2 <;> simp [Builtin.copy_, run_underlying hu, Builtin.lenOf, Builtin.firstCells, sizeOf, typeInfo, hinf, hl0, storeCells]
    simp [execOp, ho, resolve, invoke, builtin, hs, hx, hr, Result.andThen, goInt]
  · obtain ⟨g, hA', _, _, _⟩ := own_cells hown h0
    subst hA'
    have hn0 : 0 < news.length := by rw [hl]; exact Nat.mul_pos h0 hpos
    obtain ⟨b, off, e1, _⟩ := hread 0 _ (List.getElem?_eq_getElem hn0)
    subst e1
    have hload : (loadCells ⟨b, off, none⟩ news.length).run P w = .ok news.toArray w := run_loadCells_list (P := P) w ⟨b, off, none⟩ news fun j v hv => by
      obtain ⟨b', off', e2, hc⟩ := hread j v hv
      injection e2 with e2
      injection e2 with e3 e4
      subst e3 e4
      rw [add_at]
      exact hc
    obtain ⟨w', hr, hM2⟩ := own_cellsStored (P := P) (j := 0) news 0 hM hi h1 (by omega)
    rw [Nat.add_zero, putL_eq _ _ _ (by omega), List.take_zero, List.nil_append, List.drop_of_length_le (by omega), List.append_nil] at hM2
    refine sW hF h3 h1' h2 h4 (v := .int .i64 (m : Int)) (w' := w') ?_ fun a' ha => kk a' w' ha hM2
    have hrun : (Builtin.copy_ #[t, t2] o.type #[.slice (some ⟨g, 0, none⟩) m cap, .slice (some ⟨b, off, none⟩) m c]).run P w = .ok (goInt m) w' := by
      rw [hl] at hload
      simp [Builtin.copy_, run_underlying hu, Builtin.lenOf, Builtin.firstCells, sizeOf, typeInfo, hinf, hsize, hload, hr]
    simp [execOp, ho, resolve, invoke, builtin, hs, hx, hrun, Result.andThen, goInt]
/-- What a call hands back with two slices that can be read: each an older one that is named, or new. -/
def RetRo2 (w : World) (mk : Value → Value → Value) (A3 A4 : Option Addr) (n3 n4 : Nat) (xs ys : List Value) (en : Ending) (w' : World) : Prop :=
  ∃ A c A' c', en = .returned (mk (.slice A n3 c) (.slice A' n4 c')) ∧ (Ro w' A xs ∧ (A = A3 ∨ ∀ b, (Ent.ro A xs).blk = some b → w.heap.size ≤ b)) ∧ (Ro w' A' ys ∧ (A' = A4 ∨ ∀ b, (Ent.ro A' ys).blk = some b → w.heap.size ≤ b)) ∧ Below w.heap.size w w'
/-- An address that no writable entry knows. -/
def Free (L : List (Nat × Option Ent)) (A : Option Addr) : Prop := ∀ j x, look j L = some x → x.wr = true → ∀ b, x.blk = some b → A.map (·.block) ≠ some b
theorem Free.none_ {L : List (Nat × Option Ent)} : Free L none := fun _ _ _ _ _ _ h => by cases h
theorem Mem.free (hM : Mem B w0 L w) {j : Nat} {A : Option Addr} {x : Value} {xs : List Value} (hj : look j L = some (.ro A (x :: xs))) : Free L A := fun i y hy hw b hb he => by
  by_cases e : j = i
  · subst e
    rw [hj] at hy
    injection hy with hy
    subst hy
    cases hw
  · exact hM.ap j i _ _ e hj hy (.inr hw) b he hb
theorem Mem.roOr (hM : Mem B w0 L w) {w' : World} (hb : Below w.heap.size w w') (k : Nat) {A A3 : Option Addr} {xs : List Value} (hr : Ro w' A xs) (ho : A = A3 ∨ ∀ b, (Ent.ro A xs).blk = some b → w.heap.size ≤ b) (hf : xs = [] ∨ Free L A3) : Mem B w0 ((k, some (.ro A xs)) :: L) w' := by
  refine (hM.below hb).add k hr fun j x _ hx hw b hbl hxb => ?_
  rcases hw with hw | hw
  · cases hw
  rcases ho with rfl | ho
  · rcases hf with rfl | hf
    · cases hbl
    · refine hf j x hx hw b hxb ?_
      cases xs with
      | nil => cases hbl
      | cons y t => exact hbl
  · have := ho b hbl
    have := Ent.blk_lt (hM.ok j x hx) hxb
    omega
theorem Mem.roOr2 (hM : Mem B w0 L w) {w' : World} {k0 : Nat} {A0 : Option Addr} {xs0 : List Value} (h1 : Mem B w0 ((k0, some (.ro A0 xs0)) :: L) w') (k : Nat) {A A3 : Option Addr} {xs : List Value} (hr : Ro w' A xs) (ho : A = A3 ∨ ∀ b, (Ent.ro A xs).blk = some b → w.heap.size ≤ b) (hf : xs = [] ∨ Free L A3) : Mem B w0 ((k, some (.ro A xs)) :: (k0, some (.ro A0 xs0)) :: L) w' := by
  refine h1.add k hr fun j x _ hx hw b hbl hxb => ?_
  rcases hw with hw | hw
  · cases hw
  by_cases e : k0 = j
  · subst e
    rw [look_self] at hx
    injection hx with hx
    subst hx
    cases hw
  rw [look_other e] at hx
  rcases ho with rfl | ho
  · rcases hf with rfl | hf
    · cases hbl
    · refine hf j x hx hw b hxb ?_
      cases xs with
      | nil => cases hbl
      | cons y t => exact hbl
  · have := ho b hbl
    have := Ent.blk_lt (hM.ok j x hx) hxb
    omega
theorem Free.cons_ro {A A' : Option Addr} {k : Nat} {xs : List Value} (h : Free L A) : Free ((k, some (.ro A' xs)) :: L) A := fun i y hy hw b hb => by
  by_cases e : k = i
  · subst e
    rw [look_self] at hy
    injection hy with hy
    subst hy
    cases hw
  · rw [look_other e] at hy
    exact h i y hy hw b hb
theorem sRo2 (k k' : Nat) {d f n3 n4 : Nat} {args : Array Value} {mk : Value → Value → Value} {A3 A4 : Option Addr} {xs ys : List Value} (hF : Fr n F a) (hM : Mem B w0 L w) (hg : wantF ops F o = some true) (hd : o.dst = some d) (hn : d < n) (hk : known F o = true) (hr : ∀ w, (execOp (evF F) o).run P w = .ok (.enter f args) w)
    (hc : Calls P f args w (RetRo2 w mk A3 A4 n3 n4 xs ys)) (h3 : xs = [] ∨ Free L A3) (h4 : ys = [] ∨ Free L A4)
    (kk : ∀ A c A' c' a' w', Fr n ((d, some (mk (.slice A n3 c) (.slice A' n4 c'))) :: F) a' → Mem B w0 ((k', some (.ro A' ys)) :: (k, some (.ro A xs)) :: L) w' → K a' w') : One P ops Q o K a w :=
  sC hF hg hd hn hk hr (hc.mono fun _ w' ⟨A, c, A', c', he, ⟨hx1, hx2⟩, ⟨hy1, hy2⟩, hb⟩ => ⟨_, he, fun a' ha => kk A c A' c' a' w' ha (hM.roOr2 (hM.roOr hb k hx1 hx2 h3) k' hy1 hy2 h4)⟩)
end
end Go.Proofs.Ytogeficooemngaa
