/-
  Parts of conforming traces, and merged ones, in plain words.
-/
import Derived.Test.YtoighcbbaacnaaaCfTrPlain
import Derived.Test.YtoighcbbaacnaaaBkPlain
namespace Go.Proofs.Ytoighcbbaacnaaa
set_option linter.unusedVariables false
theorem Bkt.step {b r la lev : Int} {l : List (Int × Int)} {k : Nat} (hc : cfB b r l = true) (H : Bkt b r la lev (l.take k)) (hk : k < l.length) (hl : la ≤ (pr l k).1) :
    (pr l k).2 * 1048576 ≤ up b r lev ((pr l k).1 - la) ∧ Bkt b r (pr l k).1 (up b r lev ((pr l k).1 - la) - (pr l k).2 * 1048576) (l.take (k + 1)) := by
  have c := cf_iff.1 hc
  have ht := ckE_tr c.1
  have q := tr_all ht k hk
  have ln := (trE_ok ht).1
  have e : l.take (k + 1) = l.take k ++ [((pr l k).1, (pr l k).2)] := take_pr hk
  have hlen : (l.take k).length = k := by rw [List.length_take]; omega
  have e2 : lvN b r (l.take (k + 1)) (k + 1) = lvN b r l (k + 1) := by
    have := lvN_app (b := b) (r := r) (l := l.take (k + 1)) (m := l.drop (k + 1)) (k := k + 1) (by rw [List.length_take]; omega)
    rw [List.take_append_drop] at this
    exact this.symm
  have hn := H.last (t := (pr l k).1) (s := (pr l k).2) hl
  rw [← e, hlen, e2] at hn
  have p := c.2 k hk
  have g : (pr l k).2 * 1048576 ≤ up b r lev ((pr l k).1 - la) := by omega
  refine ⟨g, ?_⟩
  rw [e]
  exact H.snoc hl (by omega) (by omega) (by omega) g
theorem up_mono {b r x y d : Int} (h : x ≤ y) : up b r x d ≤ up b r y d := by unfold up; omega
/-- The part of a conforming trace behind k frames. -/
structure PartAt (b r : Int) (l out : List (Int × Int)) (k : Nat) (lev lev' : Int) : Prop where
  A : Bkt b r (laN l k) lev (l.take k)
  B : Bkt b r (laN l k) lev' out
  le : lev ≤ lev'
  len : out.length ≤ k
def Part (b r : Int) (l out : List (Int × Int)) (k : Nat) : Prop := ∃ lev lev', PartAt b r l out k lev lev'
theorem Part.zero {b r : Int} (l : List (Int × Int)) (hb : bkE b r = 0) : Part b r l [] 0 := ⟨_, _, Bkt.nil hb, Bkt.nil hb, Int.le_refl _, Nat.le_refl _⟩
theorem Part.keep {b r : Int} {l out : List (Int × Int)} {k : Nat} (h : Part b r l out k) (hc : cfB b r l = true) (hk : k < l.length) : Part b r l (out ++ [((pr l k).1, (pr l k).2)]) (k + 1) := by
  obtain ⟨lev, lev', H⟩ := h
  have ht := ckE_tr (cf_iff.1 hc).1
  have q := tr_all ht k hk
  have ln := (trE_ok ht).1
  obtain ⟨g, A⟩ := H.A.step hc hk q.1
  have m := up_mono (b := b) (r := r) (d := (pr l k).1 - laN l k) H.le
  have hl := H.len
  have B := H.B.snoc (t := (pr l k).1) (s := (pr l k).2) q.1 (by omega) (by omega) (by omega) (by omega)
  exact ⟨_, _, A, B, by omega, by simp; omega⟩
theorem Part.skip {b r : Int} {l out : List (Int × Int)} {k : Nat} (h : Part b r l out k) (hc : cfB b r l = true) (hk : k < l.length) : Part b r l out (k + 1) := by
  obtain ⟨lev, lev', H⟩ := h
  have ht := ckE_tr (cf_iff.1 hc).1
  have q := tr_all ht k hk
  obtain ⟨g, A⟩ := H.A.step hc hk q.1
  have m := up_mono (b := b) (r := r) (d := (pr l k).1 - laN l k) H.le
  have hl := H.len
  have B := H.B.wait q.1
  exact ⟨_, _, A, B, by omega, by omega⟩
theorem Part.cf {b r : Int} {l out : List (Int × Int)} {k : Nat} (h : Part b r l out k) : cfB b r out = true := by
  obtain ⟨lev, lev', H⟩ := h
  exact H.B.yes
theorem Part.tr {b r : Int} {l out : List (Int × Int)} {k : Nat} (h : Part b r l out k) : trE out = 0 := by
  obtain ⟨lev, lev', H⟩ := h
  exact H.B.tr
theorem Part.len {b r : Int} {l out : List (Int × Int)} {k : Nat} (h : Part b r l out k) : out.length ≤ k := by
  obtain ⟨lev, lev', H⟩ := h
  exact H.len
/-- What conforms to one bucket, picked by another, conforms to both. -/
theorem cfPick_part {a p b q : Int} {l : List (Int × Int)} (hc : cfB a p l = true) : ∀ (n k : Nat) (out : List (Int × Int)), k + n = l.length → Part a p l out k → Part a p l (cfPick b q out (l.drop k)) l.length
  | 0, k, out, e, h => by
    rw [List.drop_eq_nil_of_le (by omega)]
    obtain rfl : k = l.length := by omega
    exact h
  | n + 1, k, out, e, h => by
    rw [drop_pr (by omega), cfPick]
    split
    · exact cfPick_part hc n (k + 1) _ (by omega) (h.keep hc (by omega))
    · exact cfPick_part hc n (k + 1) _ (by omega) (h.skip hc (by omega))
theorem cfTr_part {a p b q : Int} {l : List (Int × Int)} (hb : bkE a p = 0) (hc : cfB a p l = true) : cfB a p (cfTr b q l) = true := by
  have := cfPick_part (b := b) (q := q) hc l.length 0 [] (by omega) (Part.zero l hb)
  exact this.cf
/-- Two conforming traces, merged. -/
structure MgAt (a p b q : Int) (l m out : List (Int × Int)) (i j : Nat) (la x y z : Int) : Prop where
  A : Bkt a p la x (l.take i)
  B : Bkt b q la y (m.take j)
  S : Bkt (a + b) (p + q) la z out
  le : x + y ≤ z
  px : 0 ≤ x
  py : 0 ≤ y
  tl : i < l.length → la ≤ (pr l i).1
  tm : j < m.length → la ≤ (pr m j).1
  len : out.length = i + j
def Mg (a p b q : Int) (l m out : List (Int × Int)) (i j : Nat) : Prop := ∃ la x y z, MgAt a p b q l m out i j la x y z
theorem up_sum {a p b q x y z d : Int} (h : x + y ≤ z) : up a p x d + up b q y d ≤ up (a + b) (p + q) z d := by
  unfold up
  rw [Int.add_mul p q d]
  omega
theorem Mg.zero {a p b q : Int} {l m : List (Int × Int)} (h1 : cfB a p l = true) (h2 : cfB b q m = true) (ha : bkE a p = 0) (hb : bkE b q = 0) (hs : bkE (a + b) (p + q) = 0) : Mg a p b q l m [] 0 0 := by
  have k1 := bkE_ok ha
  have k2 := bkE_ok hb
  refine ⟨0, _, _, _, Bkt.nil ha, Bkt.nil hb, Bkt.nil hs, by omega, by omega, by omega, fun h => ?_, fun h => ?_, rfl⟩
  · have := tr_all (ckE_tr (cf_iff.1 h1).1) 0 h; simp only [laN] at this; omega
  · have := tr_all (ckE_tr (cf_iff.1 h2).1) 0 h; simp only [laN] at this; omega
theorem Mg.left {a p b q : Int} {l m out : List (Int × Int)} {i j : Nat} (h : Mg a p b q l m out i j) (h1 : cfB a p l = true) (hi : i < l.length) (hj : j ≤ m.length) (hl : l.length + m.length ≤ 199) (ht : j < m.length → (pr l i).1 ≤ (pr m j).1) : Mg a p b q l m (out ++ [((pr l i).1, (pr l i).2)]) (i + 1) j := by
  obtain ⟨la, x, y, z, H⟩ := h
  have c := ckE_tr (cf_iff.1 h1).1
  have t := tr_all c i hi
  obtain ⟨g, A⟩ := H.A.step h1 hi (H.tl hi)
  have u := up_sum (a := a) (p := p) (b := b) (q := q) (d := (pr l i).1 - la) H.le
  have kb := bkE_ok H.B.bk
  have v := up_bd (b := b) (r := q) (n := y) (t := (pr l i).1 - la) (by omega) H.py (by omega) (by have := H.tl hi; omega)
  have ln := H.len
  refine ⟨_, _, _, _, A, H.B.wait (H.tl hi), H.S.snoc (H.tl hi) (by omega) (by omega) (by omega) (by omega), by omega, by omega, by omega, fun q => ?_, ht, by simp; omega⟩
  have := tr_all c (i + 1) q
  exact this.1
theorem Mg.right {a p b q : Int} {l m out : List (Int × Int)} {i j : Nat} (h : Mg a p b q l m out i j) (h2 : cfB b q m = true) (hj : j < m.length) (hi : i ≤ l.length) (hl : l.length + m.length ≤ 199) (ht : i < l.length → (pr m j).1 ≤ (pr l i).1) : Mg a p b q l m (out ++ [((pr m j).1, (pr m j).2)]) i (j + 1) := by
  obtain ⟨la, x, y, z, H⟩ := h
  have c := ckE_tr (cf_iff.1 h2).1
  have t := tr_all c j hj
  obtain ⟨g, B⟩ := H.B.step h2 hj (H.tm hj)
  have u := up_sum (a := a) (p := p) (b := b) (q := q) (d := (pr m j).1 - la) H.le
  have kb := bkE_ok H.A.bk
  have v := up_bd (b := a) (r := p) (n := x) (t := (pr m j).1 - la) (by omega) H.px (by omega) (by have := H.tm hj; omega)
  have ln := H.len
  refine ⟨_, _, _, _, H.A.wait (H.tm hj), B, H.S.snoc (H.tm hj) (by omega) (by omega) (by omega) (by omega), by omega, by omega, by omega, ht, fun q => ?_, by simp; omega⟩
  have := tr_all c (j + 1) q
  exact this.1
theorem Mg.cf {a p b q : Int} {l m out : List (Int × Int)} {i j : Nat} (h : Mg a p b q l m out i j) : cfB (a + b) (p + q) out = true := by
  obtain ⟨la, x, y, z, H⟩ := h
  exact H.S.yes
end Go.Proofs.Ytoighcbbaacnaaa
