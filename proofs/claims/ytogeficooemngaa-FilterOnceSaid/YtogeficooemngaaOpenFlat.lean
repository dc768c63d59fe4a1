/-
  How arguments open whose cells are all integers, in structs and arrays however nested.
-/
import Derived.Test.YtogeficooemngaaRows
import Derived.ProofKit
import Derived.OpenShut
import Derived.ChangeOld
namespace Go.Proofs.Ytogeficooemngaa
open Go.ChangeShapes Go.WideShapes Go.ChangeAt Go.RowKit
set_option linter.unusedVariables false
set_option linter.unusedSimpArgs false

/-- The kinds of the cells of fields, each told by k. -/
def fieldKinds (P : Program) (k : TypeId → Option (List IntKind)) : Nat → List Field → Option (List IntKind)
  | _, [] => some []
  | off, x :: r => match k x.type with
    | some ks => match Nat.beq x.offset off, Nat.beq (P.cellsOf x.type) ks.length with
      | true, true => match fieldKinds P k (off + ks.length) r with
        | some ls => some (ks ++ ls)
        | none => none
      | _, _ => none
    | none => none
/-- The kinds of the cells of a type whose cells are all integers. -/
def kindsOf (P : Program) : Nat → TypeId → Option (List IntKind)
  | 0, _ => none
  | f + 1, t => match P.underlying t with
    | some (.int k) => some [k]
    | some (.array n e) => match kindsOf P f e with
      | some ks => match Nat.beq (P.cellsOf e) ks.length, Nat.beq (P.cellsOf t) (n * ks.length) with
        | true, true => some (List.replicate n ks).flatten
        | _, _ => none
      | none => none
    | some (.struct fs) => match fieldKinds P (kindsOf P f) 0 fs.toList with
      | some ks => match Nat.beq (P.cellsOf t) ks.length with
        | true => some ks
        | false => none
      | none => none
    | _ => none
section
variable {H : Type} {enc : TypeId × Value → H} {P : Program} {W : World} {sp : Nat → Bool} {hl : Bool} {b0 : Nat}
/-- The cells are integers of these kinds. -/
def AllInts (ks : List IntKind) (cs : List Value) : Prop := cs.length = ks.length ∧ ∀ (j : Nat) (k : IntKind), ks[j]? = some k → ∃ x, cs[j]? = some (Value.int k x) ∧ (Lit.int k x).wf = true
theorem getElem?_flatten_replicate {α : Type} (ks : List α) (m : Nat) (hm : ks.length = m) : ∀ (n j : Nat) (k : α), (List.replicate n ks).flatten[j]? = some k → 0 < m ∧ j / m < n ∧ ks[j % m]? = some k
  | 0, j, k, h => by simp at h
  | n + 1, j, k, h => by
    rw [List.replicate_succ, List.flatten_cons, List.getElem?_append] at h
    split at h
    · rename_i hlt
      rw [hm] at hlt
      exact ⟨by omega, by rw [Nat.div_eq_of_lt hlt]; omega, by rw [Nat.mod_eq_of_lt hlt]; exact h⟩
    · rename_i hge
      rw [hm] at hge h
      obtain ⟨h1, h2, h3⟩ := getElem?_flatten_replicate ks m hm n (j - m) k h
      have e : j = (j - m) + m := by omega
      refine ⟨h1, ?_, ?_⟩
      · rw [e, Nat.add_div_right _ h1]; omega
      · rw [e, Nat.add_mod_right]; exact h3
theorem trod_flat : ∀ (f : Nat) (t : TypeId) (ks : List IntKind), kindsOf P f t = some ks → ∀ (fuel : Nat) (cs : List Value) (x : DataW H × List MemPlace), DataW.trod enc P W b0 sp hl fuel t cs = some x → AllInts ks cs
  | 0, t, ks, hk, _, _, _, _ => by simp [kindsOf] at hk
  | f + 1, t, ks, hk, fuel, cs, x, h => by
    unfold kindsOf at hk
    split at hk
    · rename_i k hu
      injection hk with hk
      subst hk
      obtain ⟨n, rfl, _, hw⟩ := DataW.trod_int hu h
      refine ⟨rfl, fun j k' hj => ?_⟩
      match j with
      | 0 => simp at hj; subst hj; exact ⟨n, rfl, hw⟩
      | j + 1 => simp at hj
    · rename_i n e hu
      split at hk
      · rename_i ks0 hk0
        split at hk
        · rename_i h1 h2
          injection hk with hk
          subst hk
          have h1' := Nat.eq_of_beq_eq_true h1
          have h2' := Nat.eq_of_beq_eq_true h2
          obtain ⟨xs, m, _, _, hlen, hxl, hi⟩ := DataW.trod_array hu h
          refine ⟨by rw [hlen, h2']; simp [List.length_flatten, Nat.mul_comm], fun j k hj => ?_⟩
          obtain ⟨hm, hjn, hr⟩ := getElem?_flatten_replicate ks0 ks0.length rfl n j k hj
          have hc := hi (j / ks0.length) hjn
          rw [List.getElem?_eq_getElem (by omega), h1'] at hc
          obtain ⟨_, hp⟩ := trod_flat f e ks0 hk0 m _ _ hc
          obtain ⟨y, hy, hw⟩ := hp (j % ks0.length) k hr
          refine ⟨y, ?_, hw⟩
          rw [List.getElem?_take, if_pos (Nat.mod_lt _ hm), List.getElem?_drop, Nat.div_add_mod'] at hy
          exact hy
        · cases hk
      · cases hk
    · rename_i fs hu
      split at hk
      · rename_i ks' hk'
        split at hk
        · rename_i h1
          injection hk with hk
          subst hk
          have h1' := Nat.eq_of_beq_eq_true h1
          obtain ⟨xs, m, _, _, hlen, hxl, hi⟩ := DataW.trod_struct hu h
          refine ⟨by rw [hlen, h1'], fun j k hj => ?_⟩
          have key : ∀ (r : List Field) (i off : Nat) (ls : List IntKind), fieldKinds P (kindsOf P f) off r = some ls → (∀ q, r[q]? = fs.toList[i + q]?) → ∀ (j : Nat) (k : IntKind), ls[j]? = some k → ∃ x, cs[off + j]? = some (Value.int k x) ∧ (Lit.int k x).wf = true := by
            intro r
            induction r with
            | nil => intro i off ls hg _ j k hj; simp [fieldKinds] at hg; subst hg; simp at hj
            | cons fl r ih =>
              intro i off ls hg hr j k hj
              unfold fieldKinds at hg
              split at hg
              · rename_i ks1 hk1
                split at hg
                · rename_i g1 g2
                  have g1' := Nat.eq_of_beq_eq_true g1
                  have g2' := Nat.eq_of_beq_eq_true g2
                  split at hg
                  · rename_i ls2 hg2
                    injection hg with hg
                    subst hg
                    rw [List.getElem?_append] at hj
                    split at hj
                    · rename_i hlt
                      have hf0 : fs[i]? = some fl := by
                        have := hr 0
                        simp at this
                        exact this.symm
                      have hc := hi i fl hf0
                      have hil : i < xs.length := by
                        have := (Array.getElem?_eq_some_iff.1 hf0).1
                        omega
                      rw [List.getElem?_eq_getElem hil, g1', g2'] at hc
                      obtain ⟨_, hp⟩ := trod_flat f fl.type ks1 hk1 m _ _ hc
                      obtain ⟨y, hy, hw⟩ := hp j k hj
                      refine ⟨y, ?_, hw⟩
                      rw [List.getElem?_take, if_pos hlt, List.getElem?_drop] at hy
                      exact hy
                    · rename_i hge
                      obtain ⟨y, hy, hw⟩ := ih (i + 1) (off + ks1.length) ls2 hg2 (fun q => by
                        have := hr (q + 1)
                        rw [show i + 1 + q = i + (q + 1) by omega]
                        simpa using this) (j - ks1.length) k hj
                      exact ⟨y, by rw [show off + j = off + ks1.length + (j - ks1.length) by omega]; exact hy, hw⟩
                  · cases hg
                · cases hg
              · cases hg
          have := key fs.toList 0 0 _ hk' (fun q => by simp) j k hj
          simpa using this
        · cases hk
      · cases hk
    · cases hk
theorem open_flat {t : TypeId} {r : Reach} {b1 : Nat} {v : Value} {d : DataW H} {p : List MemPlace} (ks : List IntKind) (hk : kindsOf P 9 t = some ks) (hagg : (match P.underlying t with | some (.struct _) | some (.array _ _) => true | _ => false) = true)
    (hv : Value.okWide P W r b1 t v) (h : DataW.Trod enc P W b0 sp hl t v d p) : ∃ cs : List Value, v = .agg cs.toArray ∧ AllInts ks cs := by
  obtain ⟨fuel, hf⟩ := h
  have hcs : ∃ cs, v = .agg cs := by
    split at hagg
    · rename_i fs hu
      simp only [Value.okWide, hu] at hv
      obtain ⟨cs, h1, _⟩ := hv
      exact ⟨cs, h1⟩
    · rename_i n e hu
      simp only [Value.okWide, hu] at hv
      obtain ⟨cs, h1, _⟩ := hv
      exact ⟨cs, h1⟩
    · cases hagg
  obtain ⟨cs, rfl⟩ := hcs
  exact ⟨cs.toList, by simp, trod_flat 9 t ks hk fuel _ _ hf⟩
theorem AllInts.cons {k : IntKind} {ks : List IntKind} {cs : List Value} (h : AllInts (k :: ks) cs) : ∃ x r, cs = .int k x :: r ∧ (Lit.int k x).wf = true ∧ AllInts ks r := by
  obtain ⟨hl, hp⟩ := h
  match cs with
  | [] => simp at hl
  | c :: r =>
    obtain ⟨x, hx, hw⟩ := hp 0 k rfl
    simp at hx
    subst hx
    exact ⟨x, r, rfl, hw, by simpa using hl, fun j k hj => by simpa using hp (j + 1) k (by simpa using hj)⟩
theorem AllInts.nil {cs : List Value} (h : AllInts [] cs) : cs = [] := List.length_eq_zero_iff.1 h.1
end
end Go.Proofs.Ytogeficooemngaa
