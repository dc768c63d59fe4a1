/-
  Plain words on a run of the credit-based shaper (no program).
-/
import Derived.Test.YtjepnlebmgkomaaCreditPlain
import Derived.Test.YtjepnlebmgkomaaTracePlain
namespace Go.Proofs.Ytjepnlebmgkomaa
def runFrom (r p : Int) : List (Int × Int) → List Int → Int → Int → Option (List Int × Int × Int)
  | [], _, a, l => some ([], a, l)
  | x :: t, fs, a, l =>
    if stateB (stepAt r p a l x.1 (fs.headD 0) x.2) (stepLevel r p a l x.1 (fs.headD 0) x.2) = true then
      (runFrom r p t fs.tail (stepAt r p a l x.1 (fs.headD 0) x.2) (stepLevel r p a l x.1 (fs.headD 0) x.2)).map fun y => (stepStart r a l x.1 (fs.headD 0) :: y.1, y.2)
    else none
def okFrame (x : Int × Int) : Bool := timeB x.1 && decide (x.2 ≤ 1542)
def runArgs (l : List (Int × Int)) (free : List Int) : Bool := l.all okFrame && free.all timeB
def runS (r p : Int) (l : List (Int × Int)) (free : List Int) : Int × List Int × Int × Int :=
  if slopeB r p = false then (450, [], 0, 0) else if trB l = false then (131, [], 0, 0) else if l.length < free.length then (3, [], 0, 0)
  else if runArgs l free = false then (2, [], 0, 0) else match runFrom r p l free 0 0 with
    | none => (6, [], 0, 0)
    | some (s, a, b) => (0, s, a, b)
theorem runS_bad1 {r p : Int} {l : List (Int × Int)} {free : List Int} (h1 : slopeB r p = false) : runS r p l free = (450, [], 0, 0) := by simp [runS, h1]
theorem runS_bad2 {r p : Int} {l : List (Int × Int)} {free : List Int} (h1 : slopeB r p = true) (h2 : trB l = false) : runS r p l free = (131, [], 0, 0) := by simp [runS, h1, h2]
theorem runS_bad3 {r p : Int} {l : List (Int × Int)} {free : List Int} (h1 : slopeB r p = true) (h2 : trB l = true) (h3 : l.length < free.length) : runS r p l free = (3, [], 0, 0) := by simp [runS, h1, h2, h3]
theorem runS_bad4 {r p : Int} {l : List (Int × Int)} {free : List Int} (h1 : slopeB r p = true) (h2 : trB l = true) (h3 : ¬ l.length < free.length) (h4 : runArgs l free = false) : runS r p l free = (2, [], 0, 0) := by simp [runS, h1, h2, h3, h4]
theorem runS_bad5 {r p : Int} {l : List (Int × Int)} {free : List Int} (h1 : slopeB r p = true) (h2 : trB l = true) (h3 : ¬ l.length < free.length) (h4 : runArgs l free = true) (h5 : runFrom r p l free 0 0 = none) : runS r p l free = (6, [], 0, 0) := by simp [runS, h1, h2, h3, h4, h5]
theorem runS_ok {r p a b : Int} {l : List (Int × Int)} {free s : List Int} (h1 : slopeB r p = true) (h2 : trB l = true) (h3 : ¬ l.length < free.length) (h4 : runArgs l free = true) (h5 : runFrom r p l free 0 0 = some (s, a, b)) : runS r p l free = (0, s, a, b) := by simp [runS, h1, h2, h3, h4, h5]
theorem all_bad {α : Type} {q : α → Bool} {l : List α} {k : Nat} {x : α} (hx : l[k]? = some x) (h : q x = false) : l.all q = false := by
  obtain ⟨hk, e⟩ := List.getElem?_eq_some_iff.1 hx
  rw [Bool.eq_false_iff]
  intro hc
  rw [List.all_eq_true] at hc
  have := hc l[k] (List.getElem_mem hk)
  rw [e, h] at this
  cases this
/-- The first k of a list pass. -/
def Passed {α : Type} (q : α → Bool) (l : List α) (k : Nat) : Prop := ∀ i x, i < k → l[i]? = some x → q x = true
theorem passed_zero {α : Type} (q : α → Bool) (l : List α) : Passed q l 0 := fun _ _ h => by omega
theorem passed_next {α : Type} {q : α → Bool} {l : List α} {k : Nat} {x : α} (h : Passed q l k) (hx : l[k]? = some x) (hq : q x = true) : Passed q l (k + 1) := fun i y hi hy => by
  by_cases e : i = k
  · subst e
    rw [hx] at hy
    cases hy
    exact hq
  · exact h i y (by omega) hy
theorem passed_all {α : Type} {q : α → Bool} {l : List α} {k : Nat} (h : Passed q l k) (hk : l.length ≤ k) : l.all q = true := by
  rw [List.all_eq_true]
  intro x hx
  obtain ⟨i, hi, e⟩ := List.mem_iff_getElem.1 hx
  exact h i x (by omega) (by rw [List.getElem?_eq_getElem hi, e])
/-- After k frames: the starts so far and the state, as the rest of the run goes on from them. -/
def RunAt (r p : Int) (l : List (Int × Int)) (free : List Int) (k : Nat) (got : List Int) (a b : Int) : Prop :=
  got.length = k ∧ stateB a b = true ∧ runFrom r p l free 0 0 = (runFrom r p (l.drop k) (free.drop k) a b).map fun y => (got ++ y.1, y.2)
theorem runAt_zero (r p : Int) (l : List (Int × Int)) (free : List Int) : RunAt r p l free 0 [] 0 0 := by
  refine ⟨rfl, by decide, ?_⟩
  simp only [List.drop_zero, List.nil_append]
  exact (Option.map_id' (x := runFrom r p l free 0 0)).symm
/-- The time at which the port is free for frame k. -/
def freeAt (free : List Int) (k : Nat) : Int := (free.drop k).headD 0
theorem freeAt_in {free : List Int} {k : Nat} {x : Int} (h : free[k]? = some x) : freeAt free k = x := by rw [freeAt, drop_at h]; rfl
theorem freeAt_out {free : List Int} {k : Nat} (h : free.length ≤ k) : freeAt free k = 0 := by rw [freeAt, List.drop_eq_nil_of_le h]; rfl
theorem runAt_next {r p a b t s : Int} {l : List (Int × Int)} {free got : List Int} {k : Nat} (h : RunAt r p l free k got a b) (hx : l[k]? = some (t, s))
    (hs : stateB (stepAt r p a b t (freeAt free k) s) (stepLevel r p a b t (freeAt free k) s) = true) :
    RunAt r p l free (k + 1) (got ++ [stepStart r a b t (freeAt free k)]) (stepAt r p a b t (freeAt free k) s) (stepLevel r p a b t (freeAt free k) s) := by
  obtain ⟨h0, _, h1⟩ := h
  refine ⟨by simp [h0], hs, ?_⟩
  rw [h1, drop_at hx, runFrom]
  unfold freeAt at hs ⊢
  rw [if_pos hs, Option.map_map, List.tail_drop]
  congr 1
  funext y
  simp
theorem runAt_big {r p a b t s : Int} {l : List (Int × Int)} {free got : List Int} {k : Nat} (h : RunAt r p l free k got a b) (hx : l[k]? = some (t, s))
    (hs : stateB (stepAt r p a b t (freeAt free k) s) (stepLevel r p a b t (freeAt free k) s) = false) : runFrom r p l free 0 0 = none := by
  obtain ⟨_, _, h1⟩ := h
  rw [h1, drop_at hx, runFrom]
  unfold freeAt at hs
  rw [if_neg (by rw [hs]; exact Bool.noConfusion)]
  rfl
theorem runAt_end {r p a b : Int} {l : List (Int × Int)} {free got : List Int} {k : Nat} (h : RunAt r p l free k got a b) (hk : l.length ≤ k) : runFrom r p l free 0 0 = some (got, a, b) := by
  obtain ⟨_, _, h1⟩ := h
  rw [h1, List.drop_eq_nil_of_le hk]
  simp [runFrom]
theorem runArgs_frame {l : List (Int × Int)} {free : List Int} {k : Nat} {t s : Int} (h : runArgs l free = true) (hx : l[k]? = some (t, s)) : timeB t = true ∧ s ≤ 1542 := by
  rw [runArgs, Bool.and_eq_true, List.all_eq_true] at h
  obtain ⟨hk, e⟩ := List.getElem?_eq_some_iff.1 hx
  have := h.1 l[k] (List.getElem_mem hk)
  rw [e, okFrame, Bool.and_eq_true, decide_eq_true_eq] at this
  exact this
theorem runArgs_free {l : List (Int × Int)} {free : List Int} (k : Nat) (h : runArgs l free = true) : timeB (freeAt free k) = true := by
  rw [runArgs, Bool.and_eq_true, List.all_eq_true, List.all_eq_true] at h
  rcases Nat.lt_or_ge k free.length with hk | hk
  · obtain ⟨x, hx⟩ := at_of_lt hk
    rw [freeAt_in hx]
    exact h.2 x (List.mem_of_getElem? hx)
  · rw [freeAt_out hk]
    decide
theorem trB_at {l : List (Int × Int)} {k : Nat} {t s : Int} (h : trB l = true) (hx : l[k]? = some (t, s)) : 0 ≤ t := by
  simp [trB] at h
  exact (trOk_size l 0 h.2 k t s hx).2.2.1
theorem runFrom_length (r p : Int) : ∀ (l : List (Int × Int)) (fs : List Int) (a b : Int) (y : List Int × Int × Int), runFrom r p l fs a b = some y → y.1.length = l.length
  | [], _, a, b, y, h => by
    simp [runFrom] at h
    subst h
    rfl
  | x :: t, fs, a, b, y, h => by
    rw [runFrom] at h
    split at h
    · rw [Option.map_eq_some_iff] at h
      obtain ⟨z, hz, rfl⟩ := h
      have := runFrom_length r p t _ _ _ z hz
      simp [this]
    · cases h
theorem runS_length {r p : Int} (l : List (Int × Int)) (free : List Int) : (runS r p l free).2.1.length ≤ 9223372036854775807 := by
  unfold runS
  split
  · simp
  split
  · simp
  rename_i h
  split
  · simp
  split
  · simp
  split
  · simp
  rename_i s a b hs
  have h1 := runFrom_length r p l free 0 0 _ hs
  have h2 : l.length ≤ 200 := by
    cases hb : trB l
    · exact absurd hb h
    · simp [trB] at hb
      omega
  simp only at h1 ⊢
  omega
end Go.Proofs.Ytjepnlebmgkomaa
