/-
  Curves in plain words: the distances, the clearing time.
-/
import Derived.Test.YtoighcbbaacnaaaNumPlain
import Derived.Test.YtoighcbbaacnaaaEng
namespace Go.Proofs.Ytoighcbbaacnaaa
set_option linter.unusedVariables false
def svE (r t : Int) : Int := if 1 ≤ r ∧ r ≤ 2097152 ∧ 0 ≤ t ∧ t ≤ 268435456 then 0 else 140
theorem svE_ok {r t : Int} (h : svE r t = 0) : 1 ≤ r ∧ r ≤ 2097152 ∧ 0 ≤ t ∧ t ≤ 268435456 := by
  unfold svE at h
  split at h
  · assumption
  · cases h
theorem svE_yes {r t : Int} (h : 1 ≤ r ∧ r ≤ 2097152 ∧ 0 ≤ t ∧ t ≤ 268435456) : svE r t = 0 := by unfold svE; rw [if_pos h]
theorem svE_not {r t : Int} (h : ¬ (1 ≤ r ∧ r ≤ 2097152 ∧ 0 ≤ t ∧ t ≤ 268435456)) : svE r t = 140 := by unfold svE; rw [if_neg h]
theorem svE_no {r t : Int} (h : ¬ svE r t = 0) : svE r t = 140 := svE_not fun q => h (svE_yes q)
/-- A quotient, rounded up. -/
def cq (n d : Int) : Int := -(-n / d)
theorem cq_ge {n d : Int} (hd : 1 ≤ d) : n ≤ cq n d * d := by
  have := Int.ediv_mul_le (-n) (show d ≠ 0 by omega)
  unfold cq
  rw [Int.neg_mul]
  omega
theorem cq_lt {n d : Int} (hd : 1 ≤ d) : cq n d * d < n + d := by
  have := Int.lt_ediv_add_one_mul_self (-n) (show 0 < d by omega)
  rw [Int.add_mul, Int.one_mul] at this
  unfold cq
  rw [Int.neg_mul]
  omega
theorem cq_uni {n d x : Int} (hd : 1 ≤ d) (h1 : n ≤ x * d) (h2 : x * d < n + d) : x = cq n d := by
  have g1 := cq_ge (n := n) hd
  have g2 := cq_lt (n := n) hd
  obtain ⟨y, hy⟩ : ∃ y, y = cq n d := ⟨_, rfl⟩
  rw [← hy] at g1 g2 ⊢
  rcases Int.lt_or_le x y with z | z
  · have := Int.mul_le_mul_of_nonneg_right (show x + 1 ≤ y by omega) (show 0 ≤ d by omega)
    rw [Int.add_mul, Int.one_mul] at this
    omega
  · rcases Int.lt_or_le y x with q | q
    · have := Int.mul_le_mul_of_nonneg_right (show y + 1 ≤ x by omega) (show 0 ≤ d by omega)
      rw [Int.add_mul, Int.one_mul] at this
      omega
    · omega
theorem cq_le {n d B : Int} (hd : 1 ≤ d) (h : n ≤ B * d) : cq n d ≤ B := by
  have g := cq_lt (n := n) hd
  rcases Int.lt_or_le B (cq n d) with z | z
  · have := Int.mul_le_mul_of_nonneg_right (show B + 1 ≤ cq n d by omega) (show 0 ≤ d by omega)
    rw [Int.add_mul, Int.one_mul] at this
    omega
  · exact z
theorem le_cq {n d B : Int} (hd : 1 ≤ d) (h : B * d < n + d) : B ≤ cq n d := by
  have g := cq_ge (n := n) hd
  rcases Int.lt_or_le (cq n d) B with z | z
  · have := Int.mul_le_mul_of_nonneg_right (show cq n d + 1 ≤ B by omega) (show 0 ≤ d by omega)
    rw [Int.add_mul, Int.one_mul] at this
    omega
  · exact z
theorem cq_nn {n d : Int} (hd : 1 ≤ d) (h : 0 ≤ n) : 0 ≤ cq n d := le_cq hd (by omega)
/-- The reference's quotient. -/
theorem cq_ref {n d : Int} (hd : 1 ≤ d) : (n / d * d < n → n / d + 1 = cq n d) ∧ (¬ n / d * d < n → n / d = cq n d) := by
  have h1 := Int.ediv_mul_le n (show d ≠ 0 by omega)
  have h2 := Int.lt_ediv_add_one_mul_self n (show 0 < d by omega)
  rw [Int.add_mul, Int.one_mul] at h2
  refine ⟨fun h => cq_uni hd ?_ ?_, fun h => cq_uni hd (by omega) (by omega)⟩
  · rw [Int.add_mul, Int.one_mul]; omega
  · rw [Int.add_mul, Int.one_mul]; omega
/-- The program's quotient. -/
theorem cq_md {x y d : Int} (hx : 0 ≤ x ∧ x ≤ 1125899906842624) (hy : 0 ≤ y ∧ y ≤ 1125899906842624) (hd : 1 ≤ d ∧ d ≤ 1125899906842624) (hr : x * y ≤ 1125899906842624 * d) : -mdV (-x) y d = cq (x * y) d := by
  have n0 : -x * y = -(x * y) := Int.neg_mul x y
  have p0 := Int.mul_nonneg hx.1 hy.1
  have a1 := cq_nn hd.1 p0
  have a2 := cq_le hd.1 hr
  have e : -x * y / d = -cq (x * y) d := by rw [n0]; unfold cq; omega
  have := (md_yes (a := -x) (b := y) (c := d) ⟨⟨by omega, by omega⟩, ⟨by omega, hy.2⟩, ⟨by omega, hd.2⟩, hd.1⟩ e ⟨by omega, by omega⟩).2
  rw [this, Int.neg_neg]
theorem md_bd (x y d : Int) : -1125899906842624 ≤ mdV x y d ∧ mdV x y d ≤ 1125899906842624 := by
  unfold mdV
  split
  · rename_i h
    have := (of_decide_eq_true h : inR x ∧ inR y ∧ inR d ∧ 1 ≤ d ∧ inR (x * y / d)).2.2.2.2
    exact this
  · omega
/-- The distances. -/
def crs (r : Int) (p q : Int × Int) : Int := (p.2 - r) * q.1 + (r - q.2) * p.1
def dIn (r : Int) (q : Int × Int) (l : List (Int × Int)) : Nat → List Int
  | 0 => []
  | k + 1 => dIn r q l k ++ (if (pr l k).2 ≤ r ∨ q.1 ≤ (pr l k).1 then [] else [cq (crs r (pr l k) q * 1048576) (r * ((pr l k).2 - q.2))])
def dAll (r : Int) (l : List (Int × Int)) : Nat → List Int
  | 0 => []
  | k + 1 => dAll r l k ++ (if r < (pr l k).2 then [] else cq ((pr l k).1 * 1048576) r :: dIn r (pr l k) l l.length)
theorem dIn_skip {r : Int} {q : Int × Int} {l : List (Int × Int)} {k : Nat} (h : (pr l k).2 ≤ r ∨ q.1 ≤ (pr l k).1) : dIn r q l (k + 1) = dIn r q l k := by show dIn r q l k ++ _ = _; rw [if_pos h, List.append_nil]
theorem dIn_take {r : Int} {q : Int × Int} {l : List (Int × Int)} {k : Nat} (h : ¬ ((pr l k).2 ≤ r ∨ q.1 ≤ (pr l k).1)) : dIn r q l (k + 1) = dIn r q l k ++ [cq (crs r (pr l k) q * 1048576) (r * ((pr l k).2 - q.2))] := by show dIn r q l k ++ _ = _; rw [if_neg h]
theorem dAll_skip {r : Int} {l : List (Int × Int)} {k : Nat} (h : r < (pr l k).2) : dAll r l (k + 1) = dAll r l k := by show dAll r l k ++ _ = _; rw [if_pos h, List.append_nil]
theorem dAll_take {r : Int} {l : List (Int × Int)} {k : Nat} (h : ¬ r < (pr l k).2) : dAll r l (k + 1) = dAll r l k ++ cq ((pr l k).1 * 1048576) r :: dIn r (pr l k) l l.length := by show dAll r l k ++ _ = _; rw [if_neg h]
theorem dIn_len (r : Int) (q : Int × Int) (l : List (Int × Int)) : ∀ k, (dIn r q l k).length ≤ k
  | 0 => Nat.le_refl _
  | k + 1 => by
    have := dIn_len r q l k
    by_cases h : (pr l k).2 ≤ r ∨ q.1 ≤ (pr l k).1
    · rw [dIn_skip h]; omega
    · rw [dIn_take h, List.length_append]; simp; omega
theorem dAll_len (r : Int) (l : List (Int × Int)) : ∀ k, (dAll r l k).length ≤ k * (l.length + 1)
  | 0 => Nat.zero_le _
  | k + 1 => by
    have := dAll_len r l k
    have e : (k + 1) * (l.length + 1) = k * (l.length + 1) + (l.length + 1) := Nat.succ_mul _ _
    by_cases h : r < (pr l k).2
    · rw [dAll_skip h]; omega
    · have := dIn_len r (pr l k) l l.length
      rw [dAll_take h, List.length_append, List.length_cons]; omega
theorem d_len (r : Int) (l : List (Int × Int)) {k j : Nat} (q : Int × Int) (x : Int) (hl : l.length ≤ 12) (hk : k < l.length) (hj : j ≤ l.length) : (dAll r l k).length < 200 ∧ (dAll r l k ++ x :: dIn r q l j).length < 200 := by
  have h1 := dAll_len r l k
  have h2 := dIn_len r q l j
  have h3 : k * (l.length + 1) ≤ 12 * 13 := Nat.mul_le_mul (by omega) (by omega)
  rw [List.length_append, List.length_cons]
  omega
/-- The least of what has come. -/
def clS (s : Int × Bool) (n : Int) : Int × Bool := if s.2 = true ∧ ¬ n < s.1 then s else (n, true)
def clF (l : List Int) : Int × Bool := l.foldl clS (0, false)
theorem clF_snoc (l : List Int) (x : Int) : clF (l ++ [x]) = clS (clF l) x := by unfold clF; rw [List.foldl_append]; rfl
theorem clF_found (l : List Int) : (clF l).2 = true ↔ l ≠ [] := by
  rcases List.eq_nil_or_concat l with rfl | ⟨l', x, rfl⟩
  · exact ⟨fun h => (by cases h), fun h => absurd rfl h⟩
  · rw [List.concat_eq_append, clF_snoc]
    refine ⟨fun _ => by simp, fun _ => ?_⟩
    unfold clS
    split
    · rename_i h; exact h.1
    · rfl
theorem crs_bd {r : Int} {p q : Int × Int} (hr : 1 ≤ r ∧ r ≤ 2097152) (hp : 1 ≤ p.1 ∧ p.1 ≤ 1048576 ∧ 1 ≤ p.2 ∧ p.2 ≤ 2097152) (hq : 1 ≤ q.1 ∧ q.1 ≤ 1048576 ∧ 1 ≤ q.2 ∧ q.2 ≤ 2097152) (h1 : r < p.2) (h2 : q.2 ≤ r) (h3 : p.1 < q.1) :
    1 ≤ crs r p q ∧ crs r p q ≤ q.1 * (p.2 - q.2) ∧ q.1 * (p.2 - q.2) ≤ 2199023255552 ∧ 1 ≤ r * (p.2 - q.2) ∧ r * (p.2 - q.2) ≤ 4398046511104 := by
  have a1 : 1 * 1 ≤ (p.2 - r) * q.1 := Int.mul_le_mul (by omega) (by omega) (by omega) (by omega)
  have a2 := Int.mul_nonneg (show 0 ≤ r - q.2 by omega) (show 0 ≤ p.1 by omega)
  have a3 : (r - q.2) * p.1 ≤ (r - q.2) * q.1 := Int.mul_le_mul_of_nonneg_left (by omega) (by omega)
  have a4 : (p.2 - r) * q.1 + (r - q.2) * q.1 = q.1 * (p.2 - q.2) := by rw [← Int.add_mul, Int.mul_comm]; congr 1; omega
  have a5 : q.1 * (p.2 - q.2) ≤ 1048576 * 2097152 := Int.mul_le_mul (by omega) (by omega) (by omega) (by omega)
  have a6 : 1 * 1 ≤ r * (p.2 - q.2) := Int.mul_le_mul (by omega) (by omega) (by omega) (by omega)
  have a7 : r * (p.2 - q.2) ≤ 2097152 * 2097152 := Int.mul_le_mul (by omega) (by omega) (by omega) (by omega)
  unfold crs
  omega
theorem crs_ce {r : Int} {p q : Int × Int} (hr : 1 ≤ r ∧ r ≤ 2097152) (hp : 1 ≤ p.1 ∧ p.1 ≤ 1048576 ∧ 1 ≤ p.2 ∧ p.2 ≤ 2097152) (hq : 1 ≤ q.1 ∧ q.1 ≤ 1048576 ∧ 1 ≤ q.2 ∧ q.2 ≤ 2097152) (h1 : r < p.2) (h2 : q.2 ≤ r) (h3 : p.1 < q.1) :
    crs r p q * 1048576 ≤ 1125899906842624 * (r * (p.2 - q.2)) := by
  have b := crs_bd hr hp hq h1 h2 h3
  have a1 : q.1 * (p.2 - q.2) ≤ 1048576 * (p.2 - q.2) := Int.mul_le_mul_of_nonneg_right (by omega) (by omega)
  have a2 : 1 * (p.2 - q.2) ≤ r * (p.2 - q.2) := Int.mul_le_mul_of_nonneg_right (by omega) (by omega)
  omega
theorem crs_parts {r : Int} {p q : Int × Int} (hr : 1 ≤ r ∧ r ≤ 2097152) (hp : 1 ≤ p.1 ∧ p.1 ≤ 1048576 ∧ 1 ≤ p.2 ∧ p.2 ≤ 2097152) (hq : 1 ≤ q.1 ∧ q.1 ≤ 1048576 ∧ 1 ≤ q.2 ∧ q.2 ≤ 2097152) (h1 : r < p.2) (h2 : q.2 ≤ r) :
    (0 ≤ (p.2 - r) * q.1 ∧ (p.2 - r) * q.1 ≤ 2199023255552) ∧ 0 ≤ (r - q.2) * p.1 ∧ (r - q.2) * p.1 ≤ 2199023255552 :=
  ⟨mul_bd 0 2097152 0 1048576 (by omega) (by omega) (by omega) (by omega) (by decide), mul_bd 0 2097152 0 1048576 (by omega) (by omega) (by omega) (by omega) (by decide)⟩
end Go.Proofs.Ytoighcbbaacnaaa
