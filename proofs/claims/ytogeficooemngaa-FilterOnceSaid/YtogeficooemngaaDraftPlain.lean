/-
  Plain words on drafts of traces (no program).
-/
import Derived.Test.YtogeficooemngaaTracePlain
namespace Go.Proofs.Ytogeficooemngaa
/-- All numbers of a list are of 16 bits. -/
def All16 (l : List Int) : Prop := ∀ x ∈ l, 0 ≤ x ∧ x ≤ 65535
def gapSum (gaps : List Int) (k : Nat) : Int := (gaps.take k).foldr (· + ·) 0
theorem foldr_append (l : List Int) (x : Int) : (l ++ [x]).foldr (· + ·) 0 = l.foldr (· + ·) 0 + x := by
  induction l with
  | nil => simp
  | cons y r ih => simp only [List.cons_append, List.foldr_cons, ih]; omega
theorem gapSum_in {gaps : List Int} {k : Nat} {x : Int} (h : gaps[k]? = some x) : gapSum gaps (k + 1) = gapSum gaps k + x := by
  obtain ⟨hk, e⟩ := List.getElem?_eq_some_iff.1 h
  unfold gapSum
  rw [List.take_succ_eq_append_getElem hk, e, foldr_append]
theorem gapSum_out {gaps : List Int} {k : Nat} (h : gaps.length ≤ k) : gapSum gaps (k + 1) = gapSum gaps k := by
  unfold gapSum
  rw [List.take_of_length_le h, List.take_of_length_le (by omega)]
theorem gapSum_step {gaps : List Int} (h : All16 gaps) (k : Nat) : gapSum gaps k ≤ gapSum gaps (k + 1) ∧ gapSum gaps (k + 1) ≤ gapSum gaps k + 65535 := by
  rcases Nat.lt_or_ge k gaps.length with hk | hk
  · obtain ⟨x, hx⟩ := at_of_lt hk
    rw [gapSum_in hx]
    have := h x (List.mem_of_getElem? hx)
    omega
  · rw [gapSum_out hk]
    omega
theorem gapSum_bound {gaps : List Int} (h : All16 gaps) : ∀ k : Nat, 0 ≤ gapSum gaps k ∧ gapSum gaps k ≤ 65535 * k
  | 0 => by simp [gapSum]
  | k + 1 => by
    have h1 := gapSum_bound h k
    have h2 := gapSum_step h k
    omega
/-- The first k frames of a draft. -/
def drTake (gaps sizes : List Int) (k : Nat) : List (Int × Int) := (List.range k).map fun i => (gapSum gaps (i + 1), 1 + sizes[i]?.getD 0)
def drTrace (gaps sizes : List Int) : List (Int × Int) := drTake gaps sizes (min 30 sizes.length)
theorem drTake_succ (gaps sizes : List Int) (k : Nat) : drTake gaps sizes (k + 1) = drTake gaps sizes k ++ [(gapSum gaps (k + 1), 1 + sizes[k]?.getD 0)] := by
  unfold drTake
  rw [List.range_succ, List.map_append]
  rfl
theorem drTake_length (gaps sizes : List Int) (k : Nat) : (drTake gaps sizes k).length = k := by simp [drTake]
theorem drTrace_length (gaps sizes : List Int) : (drTrace gaps sizes).length = min 30 sizes.length := drTake_length _ _ _
theorem drTake_at {gaps sizes : List Int} {k n : Nat} (h : k < n) : (drTake gaps sizes n)[k]? = some (gapSum gaps (k + 1), 1 + sizes[k]?.getD 0) := by simp [drTake, h]
theorem size_at {sizes : List Int} (h : All16 sizes) (k : Nat) : 0 ≤ sizes[k]?.getD 0 ∧ sizes[k]?.getD 0 ≤ 65535 := by
  rcases Nat.lt_or_ge k sizes.length with hk | hk
  · obtain ⟨x, hx⟩ := at_of_lt hk
    rw [hx]
    exact h x (List.mem_of_getElem? hx)
  · rw [List.getElem?_eq_none hk]
    simp
/-- A draft's trace is valid. -/
theorem trOk_of {l : List (Int × Int)} : ∀ (la : Int), (∀ (k : Nat) (a s : Int), l[k]? = some (a, s) → (a ≤ 1099511627776 ∧ 1 ≤ s ∧ s ≤ 1048576) ∧ la ≤ a ∧ ∀ (b t : Int), l[k + 1]? = some (b, t) → a ≤ b) → trOk la l = true := by
  induction l with
  | nil => intro _ _; rfl
  | cons x r ih =>
    intro la h
    obtain ⟨a, s⟩ := x
    have h0 := h 0 a s (by simp)
    rw [trOk_cons, decide_eq_true (by omega), Bool.true_and]
    refine ih a fun k b t hk => ?_
    have h1 := h (k + 1) b t (by simpa using hk)
    refine ⟨h1.1, ?_, fun c u hc => h1.2.2 c u (by simpa using hc)⟩
    have hmono : ∀ (j : Nat) (c u : Int), r[j]? = some (c, u) → a ≤ c := by
      intro j
      induction j with
      | zero => intro c u hc; exact h0.2.2 c u (by simpa using hc)
      | succ j ihj =>
        intro c u hc
        have hj : j < r.length := by have := (List.getElem?_eq_some_iff.1 hc).1; omega
        obtain ⟨⟨d, v⟩, hd⟩ := at_of_lt hj
        have h2 := ihj d v hd
        have h3 := (h (j + 1) d v (by simpa using hd)).2.2 c u (by simpa using hc)
        omega
    exact hmono k b t hk
theorem drTrace_ok {gaps sizes : List Int} (hg : All16 gaps) (hs : All16 sizes) : trB (drTrace gaps sizes) = true := by
  rw [trB, drTrace_length, decide_eq_true (by omega), Bool.true_and]
  refine trOk_of 0 fun k a s hk => ?_
  have hk' : k < min 30 sizes.length := by have := (List.getElem?_eq_some_iff.1 hk).1; rw [drTrace_length] at this; exact this
  unfold drTrace at hk
  rw [drTake_at hk'] at hk
  injection hk with hk
  injection hk with h1 h2
  have b1 := gapSum_bound hg (k + 1)
  have b2 := size_at hs k
  refine ⟨by omega, by omega, fun b t hb => ?_⟩
  have hk2 : k + 1 < min 30 sizes.length := by have := (List.getElem?_eq_some_iff.1 hb).1; rw [drTrace_length] at this; exact this
  unfold drTrace at hb
  rw [drTake_at hk2] at hb
  injection hb with hb
  injection hb with h3 h4
  have := gapSum_step hg (k + 1)
  omega
end Go.Proofs.Ytogeficooemngaa
