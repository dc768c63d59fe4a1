/-
  Structs of integers and of structs of integers compared.
-/
import Derived.Test.YtogeficooemngaaEng
namespace Go.Proofs.Ytogeficooemngaa
open Go.RowKit
set_option linter.unusedVariables false
set_option linter.unusedSimpArgs false
def fldB (P : Program) (f : Field) : Option Nat := match P.underlying f.type with
  | some (.int _) => some 1
  | some (.struct gs) => if flatB P 0 gs.toList && !P.stoodInHeld f.type && (aggSize P f.type == some (some gs.toList.length)) then some gs.toList.length else none
  | _ => none
/-- Fields from cell i on, each an integer or a struct of integers; the cell behind them. -/
def flat2B (P : Program) : Nat → List Field → Option Nat
  | i, [] => some i
  | i, f :: r => if Nat.beq f.offset i && (f.name != "_") then (match fldB P f with | some m => flat2B P (i + m) r | none => none) else none
theorem flat2B_le {P : Program} : ∀ (fs : List Field) (i m : Nat), flat2B P i fs = some m → i ≤ m
  | [], i, m, h => by simp [flat2B] at h; omega
  | f :: r, i, m, h => by
    simp only [flat2B] at h
    split at h
    · split at h
      · have := flat2B_le r _ _ h
        omega
      · cases h
    · cases h
theorem eq_parts {ps qs : List Int} (s : Nat) : (ps = qs) ↔ ps.take s = qs.take s ∧ ps.drop s = qs.drop s := ⟨fun h => by rw [h]; exact ⟨rfl, rfl⟩, fun h => by rw [← List.take_append_drop s ps, h.1, h.2, List.take_append_drop]⟩
theorem ext_part {X : Array Value} {ps : List Int} {i s : Nat} (hs : s ≤ ps.length) (hX : ∀ (j : Nat) (p : Int), ps[j]? = some p → X[i + j]? = some (.int .i64 p)) : X.extract i (i + s) = ((ps.take s).map (Value.int .i64)).toArray := by
  have hlen : ∀ j, j < ps.length → i + j < X.size := fun j hj => (Array.getElem?_eq_some_iff.1 (hX j _ (List.getElem?_eq_getElem hj))).1
  apply Array.ext
  · simp
    rcases Nat.eq_zero_or_pos s with h0 | h0
    · omega
    · have := hlen (s - 1) (by omega)
      omega
  · intro j h1 h2
    simp at h2
    have := hX j _ (List.getElem?_eq_getElem (by omega))
    have h3 := (Array.getElem?_eq_some_iff.1 this).2
    simp [h3]
theorem run_eqFields2 {P : Program} {w : World} {d : Nat} {X Y : Array Value} : ∀ (fs : List Field) (i m : Nat) (ps qs : List Int), flat2B P i fs = some m → ps.length + i = m → qs.length + i = m →
    (∀ j p, ps[j]? = some p → X[i + j]? = some (.int .i64 p)) → (∀ j p, qs[j]? = some p → Y[i + j]? = some (.int .i64 p)) → (Op.eqFields (d + 2) X Y fs).run P w = .ok (decide (ps = qs)) w
  | [], i, m, ps, qs, h, h1, h2, _, _ => by
    simp [flat2B] at h
    obtain rfl := List.length_eq_zero_iff.1 (show ps.length = 0 by omega)
    obtain rfl := List.length_eq_zero_iff.1 (show qs.length = 0 by omega)
    simp [Op.eqFields]
  | f :: r, i, m, ps, qs, h, h1, h2, hX, hY => by
    simp only [flat2B] at h
    split at h
    · rename_i hc
      simp only [Bool.and_eq_true, bne_iff_ne] at hc
      obtain ⟨ho, hn⟩ := hc
      have ho' := Nat.eq_of_beq_eq_true ho
      split at h
      · rename_i s hs
        have hle := flat2B_le r _ _ h
        have hps : s ≤ ps.length := by omega
        have hqs : s ≤ qs.length := by omega
        have ih := run_eqFields2 (P := P) (w := w) (d := d) (X := X) (Y := Y) r (i + s) m (ps.drop s) (qs.drop s) h (by rw [List.length_drop]; omega) (by rw [List.length_drop]; omega)
          (fun j p hp => by rw [Nat.add_assoc]; exact hX (s + j) p (by simpa [List.getElem?_drop] using hp)) (fun j p hp => by rw [Nat.add_assoc]; exact hY (s + j) p (by simpa [List.getElem?_drop] using hp))
        have hfin : ∀ b : Bool, b = decide (ps.take s = qs.take s) → (if b then decide (ps.drop s = qs.drop s) else false) = decide (ps = qs) := fun b hb => by
          subst hb
          by_cases e : ps.take s = qs.take s
          · by_cases e2 : ps.drop s = qs.drop s
            · simp [e, e2, (eq_parts s).2 ⟨e, e2⟩]
            · have : ¬ ps = qs := fun h => e2 ((eq_parts s).1 h).2
              simp [e, e2, this]
          · have : ¬ ps = qs := fun h => e ((eq_parts s).1 h).1
            simp [e, this]
        have key : ∃ vx vy, (part f.type X f.offset).run P w = .ok vx w ∧ (part f.type Y f.offset).run P w = .ok vy w ∧ (Op.equalIn (d + 2) f.type vx vy).run P w = .ok (decide (ps.take s = qs.take s)) w := by
          unfold fldB at hs
          split at hs
          · rename_i k hk
            injection hs with hs
            subst hs
            have hag : (isAgg f.type).run P w = .ok false w := isAgg_false hk rfl
            obtain ⟨x, hx⟩ : ∃ x, ps[0]? = some x := ⟨_, List.getElem?_eq_getElem (by omega)⟩
            obtain ⟨y, hy⟩ : ∃ y, qs[0]? = some y := ⟨_, List.getElem?_eq_getElem (by omega)⟩
            have hX0 := hX 0 x hx
            have hY0 := hY 0 y hy
            rw [Nat.add_zero] at hX0 hY0
            refine ⟨.int .i64 x, .int .i64 y, by simp [part, Sem.run_bind, hag, ho', hX0], by simp [part, Sem.run_bind, hag, ho', hY0], ?_⟩
            rw [run_equalIn_int w (d + 1) f.type .i64 k x y hk]
            have ex : ps.take 1 = [x] := by cases ps with
              | nil => simp at hx
              | cons a b => simp at hx; simp [hx]
            have ey : qs.take 1 = [y] := by cases qs with
              | nil => simp at hy
              | cons a b => simp at hy; simp [hy]
            rw [ex, ey]
            by_cases e : x = y <;> simp [e]
          · rename_i gs hg
            split at hs
            · rename_i hb
              injection hs with hs
              simp only [Bool.and_eq_true, beq_iff_eq, Bool.not_eq_true'] at hb
              obtain ⟨⟨hb1, hb2⟩, hb3⟩ := hb
              obtain ⟨d', i', hd', hag', hi', hsz⟩ := aggSize_some hb3
              have hag : (isAgg f.type).run P w = .ok true w := isAgg_true hd' hag'
              have hsize : (sizeOf f.type).run P w = .ok s w := by simp [sizeOf, typeInfo, hi', hsz, hs]
              refine ⟨.agg ((ps.take s).map (Value.int .i64)).toArray, .agg ((qs.take s).map (Value.int .i64)).toArray, ?_, ?_, ?_⟩
              · simp only [part, Sem.run_bind, hag, Result.andThen_ok, if_true, hsize, Sem.run_pure, ho']
                rw [ext_part hps hX]
              · simp only [part, Sem.run_bind, hag, Result.andThen_ok, if_true, hsize, Sem.run_pure, ho']
                rw [ext_part hqs hY]
              · have hfs : P.fieldsOf f.type = gs := by simp [Program.fieldsOf, hg]
                rw [run_equalIn_struct w (d + 1) f.type _ _ (by rw [hfs]; exact hg) hb2, hfs]
                exact run_eqFields gs.toList 0 _ _ hb1 (by rw [List.length_take, hs]; omega) (by rw [List.length_take, hs]; omega) (fun j p hp => by rw [Nat.zero_add, List.getElem?_toArray, List.getElem?_map, hp]; rfl) (fun j p hp => by rw [Nat.zero_add, List.getElem?_toArray, List.getElem?_map, hp]; rfl)
            · cases hs
          · cases hs
        obtain ⟨vx, vy, k1, k2, k3⟩ := key
        have := hfin _ rfl
        rw [← this]
        simp only [Op.eqFields, if_pos hn, Sem.run_bind, k1, k2, k3, Result.andThen_ok]
        by_cases e : ps.take s = qs.take s
        · simp [e, ih]
        · simp [e]
      · cases h
    · cases h
section
variable {P : Program} {n : Nat} {F : List (Nat × Option Value)} {a : Act} {o : Oper} {C : World → Prop}
theorem run_eqStruct2 {w : World} {t : TypeId} {ps qs : List Int} {fs : Array Field} (hu : P.underlying t = some (.struct fs)) (hp : P.stoodInHeld t = false) (hb : flat2B P 0 fs.toList = some ps.length) (h2 : qs.length = ps.length) :
    (Op.equalIn 10000 t (.agg (ps.map (Value.int .i64)).toArray) (.agg (qs.map (Value.int .i64)).toArray)).run P w = .ok (decide (ps = qs)) w := by
  have hfs : P.fieldsOf t = fs := by simp [Program.fieldsOf, hu]
  rw [run_equalIn_struct w 9999 t _ _ (by rw [hfs]; exact hu) hp, hfs]
  exact run_eqFields2 (d := 9997) fs.toList 0 ps.length ps qs hb rfl (by omega) (fun j p hp => by simp [hp]) (fun j p hp => by simp [hp])
theorem yld_eql2 {t t' : TypeId} {x y : Operand} {fs : Array Field} (ps qs : List Int) (hF : Fr n F a) (ho : o.op = .binOp .eql t x y t') (hk : known F o = true) (hx : evF F x = .agg (ps.map (Value.int .i64)).toArray) (hy : evF F y = .agg (qs.map (Value.int .i64)).toArray)
    (hu : P.underlying t = some (.struct fs)) (hp : P.stoodInHeld t = false) (hg : P.eqGuardType P.depth t = false) (hb : flat2B P 0 fs.toList = some ps.length) (h2 : qs.length = ps.length) : Yld P o a C (.bool (decide (ps = qs))) := by
  intro w _
  unfold Oper.quietAt
  rw [hF.exec hk]
  simp [execOp, ho, hx, hy, run_eqGuard_agg w _ _ _ _ _ _ hg, run_eql_struct, run_eqStruct2 hu hp hb h2, Oper.quietUpon]
theorem yld_neq2 {t t' : TypeId} {x y : Operand} {fs : Array Field} (ps qs : List Int) (hF : Fr n F a) (ho : o.op = .binOp .neq t x y t') (hk : known F o = true) (hx : evF F x = .agg (ps.map (Value.int .i64)).toArray) (hy : evF F y = .agg (qs.map (Value.int .i64)).toArray)
    (hu : P.underlying t = some (.struct fs)) (hp : P.stoodInHeld t = false) (hg : P.eqGuardType P.depth t = false) (hb : flat2B P 0 fs.toList = some ps.length) (h2 : qs.length = ps.length) : Yld P o a C (.bool (!decide (ps = qs))) := by
  intro w _
  unfold Oper.quietAt
  rw [hF.exec hk]
  simp [execOp, ho, hx, hy, run_eqGuard_agg w _ _ _ _ _ _ hg, run_neq_struct, run_eqStruct2 hu hp hb h2, Oper.quietUpon]
end
end Go.Proofs.Ytogeficooemngaa
