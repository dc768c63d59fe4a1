/-
  A run of the shaper against its steps, and a frame that comes late: plain words, no program.
-/
import Derived.Test.YtjepnlebmgkomaaSharePlain
namespace Go.Proofs.Ytjepnlebmgkomaa
def runE (r p : Int) (l : List (Int × Int)) (free : List Int) : Int := (runS r p l free).1
theorem runE_ok {r p : Int} {l : List (Int × Int)} {free : List Int} (h : runE r p l free = 0) : ∃ S x y, runS r p l free = (0, S, x, y) := ⟨(runS r p l free).2.1, (runS r p l free).2.2.1, (runS r p l free).2.2.2, by rw [← h]; rfl⟩
theorem runE_six {r p : Int} {l : List (Int × Int)} {free : List Int} (h1 : slopeE r p = 0) (h2 : trE l = 0) (h3 : free.length ≤ l.length) (h4 : runArgs l free = true) (h : ¬ runE r p l free = 0) : runE r p l free = 6 := by
  unfold runE at *
  cases hr : runFrom r p l free 0 0 with
  | none => rw [runS_bad5 (slopeB_of h1) (trB_of h2) (by omega) h4 hr]
  | some y =>
    rw [runS_ok (s := y.1) (a := y.2.1) (b := y.2.2) (slopeB_of h1) (trB_of h2) (by omega) h4 hr] at h
    exact absurd rfl h
theorem runE_from {r p x y : Int} {l : List (Int × Int)} {free S : List Int} (h1 : slopeE r p = 0) (h2 : trE l = 0) (h3 : free.length ≤ l.length) (h4 : runArgs l free = true) (h : runS r p l free = (0, S, x, y)) : runFrom r p l free 0 0 = some (S, x, y) := by
  cases hr : runFrom r p l free 0 0 with
  | none =>
    rw [runS_bad5 (slopeB_of h1) (trB_of h2) (by omega) h4 hr] at h
    cases h
  | some q =>
    rw [runS_ok (s := q.1) (a := q.2.1) (b := q.2.2) (slopeB_of h1) (trB_of h2) (by omega) h4 hr] at h
    injection h with _ h
    exact congrArg some h
theorem runArgs_of {l : List (Int × Int)} {free : List Int} (h1 : ∀ k, k < l.length → 0 ≤ (pr l k).1 ∧ (pr l k).1 ≤ 1966050 ∧ 1 ≤ (pr l k).2 ∧ (pr l k).2 ≤ 1542) (h2 : free.all timeB = true) : runArgs l free = true := by
  have h3 : l.all okFrame = true := passed_all (k := l.length) (fun i x hi hx => by
    have q := h1 i hi
    rw [pr_some hi] at hx
    injection hx with hx
    rw [← hx]
    simp [okFrame, timeB]
    omega) (Nat.le_refl _)
  simp [runArgs, h3, h2]
theorem all_time {l : List Int} {k : Nat} (h : l.all timeB = true) (hk : k < l.length) : 0 ≤ nt l k ∧ nt l k ≤ 1073741824 := timeB_iff.1 (List.all_eq_true.1 h (nt l k) (List.mem_of_getElem? (nt_some hk)))
theorem all_snoc {l : List Int} {x : Int} (h : l.all timeB = true) (h1 : 0 ≤ x) (h2 : x ≤ 1073741824) : (l ++ [x]).all timeB = true := by
  rw [List.all_append, h]
  simp [timeB]
  omega
theorem runAt_here {r p a b t s x y : Int} {l : List (Int × Int)} {free S : List Int} {k : Nat} (h : RunAt r p l free k (S.take k) a b) (hr : runFrom r p l free 0 0 = some (S, x, y)) (hx : l[k]? = some (t, s)) :
    stateB (stepAt r p a b t (freeAt free k) s) (stepLevel r p a b t (freeAt free k) s) = true ∧ nt S k = stepStart r a b t (freeAt free k) ∧
    RunAt r p l free (k + 1) (S.take (k + 1)) (stepAt r p a b t (freeAt free k) s) (stepLevel r p a b t (freeAt free k) s) := by
  cases hs : stateB (stepAt r p a b t (freeAt free k) s) (stepLevel r p a b t (freeAt free k) s)
  · rw [runAt_big h hx hs] at hr
    cases hr
  have hn := runAt_next h hx hs
  have h3 := hn.2.2
  rw [hr] at h3
  obtain ⟨q, hq, he⟩ := Option.map_eq_some_iff.1 h3.symm
  have hS : S.take k ++ [stepStart r a b t (freeAt free k)] ++ q.1 = S := (Prod.mk.inj he).1
  have hlen : (S.take k).length = k := h.1
  have e1 : S[k]? = some (stepStart r a b t (freeAt free k)) := by
    rw [← hS, List.append_assoc, List.getElem?_append_right (by omega), hlen, Nat.sub_self]
    rfl
  have hk := (List.getElem?_eq_some_iff.1 e1).1
  have e2 : S.take k ++ [stepStart r a b t (freeAt free k)] = S.take (k + 1) := by
    rw [List.take_succ_eq_append_getElem hk, (List.getElem?_eq_some_iff.1 e1).2]
  rw [e2] at hn
  refine ⟨rfl, ?_, hn⟩
  rw [nt_some hk] at e1
  exact Option.some.inj e1
theorem runAt_last {r p a b x y : Int} {l : List (Int × Int)} {free S : List Int} {k : Nat} (h : RunAt r p l free k (S.take k) a b) (hr : runFrom r p l free 0 0 = some (S, x, y)) (hk : l.length ≤ k) : x = a ∧ y = b := by
  rw [runAt_end h hk] at hr
  injection hr with hr
  have := (Prod.mk.inj hr).2
  exact ⟨(Prod.mk.inj this).1.symm, (Prod.mk.inj this).2.symm⟩
def PrevOk (p : Int) (l : List (Int × Int)) (S : List Int) (i : Nat) (a : Int) : Prop := ∀ j, i = j + 1 → a = nt S j + (pr l j).2 * p
theorem prevOk_zero (p : Int) (l : List (Int × Int)) (S : List Int) (a : Int) : PrevOk p l S 0 a := fun j h => by omega
theorem prevOk_next {p a : Int} {l : List (Int × Int)} {S : List Int} {i : Nat} (h : a = nt S i + (pr l i).2 * p) : PrevOk p l S (i + 1) a := fun j hj => by
  obtain rfl : i = j := by omega
  exact h
theorem prevOk_at {p a : Int} {l : List (Int × Int)} {S : List Int} {i : Nat} (h : PrevOk p l S i a) (hp : ∀ k, k < l.length → 0 ≤ (pr l k).1 ∧ (pr l k).1 ≤ 1966050 ∧ 1 ≤ (pr l k).2 ∧ (pr l k).2 ≤ 1542) (hl : (i : Int) ≤ (l.length : Int)) (hi : 0 < (i : Int)) : a = nt S (i - 1) + (pr l (i - 1)).2 * p ∧ 1 ≤ (pr l (i - 1)).2 ∧ (pr l (i - 1)).2 ≤ 1542 :=
  ⟨h (i - 1) (by omega), (hp (i - 1) (by omega)).2.2⟩
theorem cst_zero {r p a l at_ free size : Int} (h1 : slopeE r p = 0) (h2 : stateB a l = true) (h3 : timeB at_ = true) (h4 : timeB free = true) (h5 : 1 ≤ size) (h6 : size ≤ 1542) (h : stateB (stepAt r p a l at_ free size) (stepLevel r p a l at_ free size) = true) : cstE r p a l at_ free size = 0 := by
  rcases cstE_cases h1 h2 h3 h4 h5 h6 with q | q
  · exact q.1
  · rw [h] at q
    cases q.2
theorem late_step {r p a l t : Int} (h1 : slopeE r p = 0) (h2 : stateB a l = true) (h : a + 1 + max 0 (-l) / r + 1 ≤ t) : stepStart r a l t 0 = t ∧ stepAt r p a l t 0 64 = t + 64 * p ∧ stepLevel r p a l t 0 64 = (r * p - 1048576) * 64 := by
  obtain ⟨r1, r2, p1, p2, rp⟩ := slopeE_ok h1
  obtain ⟨a1, a2, l1, l2⟩ := stateB_iff.1 h2
  have hq0 : 0 ≤ max 0 (-l) / r := Int.ediv_nonneg (by omega) (by omega)
  have hqm := Int.mul_ediv_add_emod (max 0 (-l)) r
  have hq2 := Int.emod_lt_of_pos (max 0 (-l)) (b := r) (by omega)
  generalize max 0 (-l) / r = q at *
  have hm := Int.mul_le_mul_of_nonneg_left (show q + 1 ≤ t - a by omega) (show 0 ≤ r by omega)
  rw [Int.mul_add, Int.mul_one] at hm
  have hA : idleA a t = t := by unfold idleA; omega
  have hL : idleL r a l t = 0 := by
    unfold idleL
    rw [if_neg (by omega)]
    omega
  have hd : (max 0 (-(0 : Int)) + r - 1) / r = 0 := Int.ediv_eq_zero_of_lt (by omega) (by omega)
  have hs : stepStart r a l t 0 = t := by
    unfold stepStart
    rw [hA, hL, hd]
    omega
  refine ⟨hs, ?_, ?_⟩
  · unfold stepAt
    rw [hs]
  · unfold stepLevel
    rw [hs, hA, hL, Int.sub_self, Int.mul_zero]
    omega
end Go.Proofs.Ytjepnlebmgkomaa
