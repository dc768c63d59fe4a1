/-
  Words for memory that all walks of this seat share: a block known whole, slices of integers and of pairs of integers that read as lists, and how each is kept.
-/
import Derived.WalkKit
import Derived.WalkSpells
import Derived.WalkLawsBesides
import Derived.Lib.MinMax
import Derived.RegionTactic
import Derived.BigRegion
import Derived.ChangeAlike
import Derived.Laws.OwnMore
import Derived.Laws.Rows
import Derived.Deep.Draws
import Derived.Maps.AppendAt
namespace Go.Proofs.Ytogeficooemngaa
open Go.RowKit

theorem hide {p : Prop} (h : p) : Hid p := h
theorem ret_int {k : IntKind} {a b : Int} (h : a = b) : Ending.returned (.int k a) = .returned (.int k b) := by rw [h]
theorem ret_bool {a b : Bool} (h : a = b) : Ending.returned (.bool a) = .returned (.bool b) := by rw [h]

/-- What a call that only makes memory leaves: the value, and nothing that was there has turned. -/
def Ret (w : World) (v : Value) (e : Ending) (w' : World) : Prop := e = .returned v ∧ Below w.heap.size w w'

theorem below_cells {B : Nat} {W w1 : World} (hb : Below B W w1) :
    (∀ b o, b < B → w1.cell? ⟨b, o, none⟩ = W.cell? ⟨b, o, none⟩) ∧ (∀ b o, b < B → w1.frozen? ⟨b, o, none⟩ = W.frozen? ⟨b, o, none⟩) :=
  ⟨fun b o h => hb.cell (p := ⟨b, o, none⟩) h, fun b o h => hb.frozen (p := ⟨b, o, none⟩) h⟩
theorem below_on {B C : Nat} {a b c : World} (h : Below B a b) (k : Below C b c) (hB : B ≤ C) : Below B a c := h.trans (k.mono hB)
theorem below_drewN {B : Nat} {a w : World} (h : Below B a w) (n : Nat) : Below B a (w.drewN n) := ⟨h.os, h.tape, h.output, h.size, h.block⟩

theorem below_undrew {W w1 : World} (h : Below W.drew.heap.size W.drew w1) : Below W.heap.size W w1 := ⟨h.os, h.tape, h.output, h.size, h.block⟩
theorem below_undrewN {W w1 : World} {n : Nat} (h : Below (W.drewN n).heap.size (W.drewN n) w1) : Below W.heap.size W w1 := ⟨h.os, h.tape, h.output, h.size, h.block⟩

/-- Block g is just the cells cs of type t, none frozen. -/
def Blk (w : World) (g : Nat) (t : TypeId) (cs : Array Value) : Prop := w.heap[g]? = some (.cells cs t (0, 0))
section
variable {w w' : World} {g : Nat} {t : TypeId} {cs : Array Value}
theorem Blk.lt (h : Blk w g t cs) : g < w.heap.size := by
  rcases Nat.lt_or_ge g w.heap.size with hlt | hge
  · exact hlt
  · unfold Blk at h
    rw [Array.getElem?_eq_none hge] at h
    cases h
theorem Blk.cell (h : Blk w g t cs) (i : Nat) : w.cell? ⟨g, i, none⟩ = cs[i]? := cell_of_row w g i cs t (0, 0) h
theorem Blk.frozen (h : Blk w g t cs) (i : Nat) : w.frozen? ⟨g, i, none⟩ = false := by
  unfold Blk at h
  simp [World.frozen?, h]
theorem Blk.new (w : World) (t : TypeId) (cs : Array Value) : Blk (w.alloc (.cells cs t)) w.heap.size t cs := heap_alloc_new w _
theorem Blk.new' {g : Nat} (w : World) (t : TypeId) (cs : Array Value) (hg : g = w.heap.size) : Blk (w.alloc (.cells cs t)) g t cs := by subst hg; exact Blk.new w t cs
theorem Blk.drew (h : Blk w g t cs) : Blk w.drew g t cs := h
theorem Blk.drewN (h : Blk w g t cs) (n : Nat) : Blk (w.drewN n) g t cs := h
theorem Blk.alloc (h : Blk w g t cs) (o : Obj) : Blk (w.alloc o) g t cs := (Below.heap_alloc w o g h.lt).trans h
theorem Blk.set_ (h : Blk w g t cs) (i : Nat) (u : Value) : Blk (w.setCell ⟨g, i, none⟩ u) g t (cs.setIfInBounds i u) := by
  unfold Blk at h ⊢
  simp [World.setCell, Array.getElem?_modify, h]
theorem Blk.far (h : Blk w g t cs) {p : Addr} (hp : g ≠ p.block) (u : Value) : Blk (w.setCell p u) g t cs := (Below.heap_setCell w p u g hp).trans h
theorem Blk.below {B : Nat} (h : Blk w g t cs) (hb : Below B w w') (hg : g < B) : Blk w' g t cs := (hb.block g hg).trans h
theorem Blk.grown {row : Option Nat} (h : Blk w g t cs) (hb : w.grownBy w' row) (hg : some g ≠ row) : Blk w' g t cs := (hb.block g h.lt hg).trans h
theorem Blk.of_heap (h : Blk w g t cs) (he : w'.heap = w.heap) : Blk w' g t cs := by unfold Blk at *; rw [he]; exact h
end

theorem grown_refl (w : World) (g : Option Nat) : w.grownBy w g := ⟨rfl, rfl, rfl, Nat.le_refl _, fun _ _ _ => rfl⟩
theorem grown_drew {a w : World} {g : Option Nat} (h : a.grownBy w g) : a.grownBy w.drew g := ⟨h.os, h.tape, h.output, h.size, h.block⟩
theorem grown_drewN {a w : World} {g : Option Nat} (h : a.grownBy w g) (n : Nat) : a.grownBy (w.drewN n) g := ⟨h.os, h.tape, h.output, h.size, h.block⟩
theorem grown_alloc {a w : World} {g : Option Nat} (h : a.grownBy w g) (o : Obj) : a.grownBy (w.alloc o) g :=
  ⟨h.os, h.tape, h.output, Nat.le_trans h.size (by simp), fun i hi hne => (Below.heap_alloc w o i (Nat.lt_of_lt_of_le hi h.size)).trans (h.block i hi hne)⟩
theorem grown_setCell {a w : World} {g : Nat} (h : a.grownBy w (some g)) (i : Nat) (u : Value) : a.grownBy (w.setCell ⟨g, i, none⟩ u) (some g) :=
  ⟨h.os, h.tape, h.output, by simpa [World.setCell] using h.size, fun k hk hne => (Below.heap_setCell w ⟨g, i, none⟩ u k (by rintro rfl; exact hne rfl)).trans (h.block k hk hne)⟩
theorem grown_of_below {B : Nat} {a w : World} (h : Below B a w) (hB : a.heap.size ≤ B) (g : Option Nat) : a.grownBy w g := ⟨h.os, h.tape, h.output, h.size, fun i hi _ => h.block i (by omega)⟩
theorem grown_trans {a b c : World} {g : Option Nat} (h : a.grownBy b g) (k : b.grownBy c g) : a.grownBy c g :=
  ⟨k.os.trans h.os, k.tape.trans h.tape, k.output.trans h.output, Nat.le_trans h.size k.size, fun i hi hne => (k.block i (Nat.lt_of_lt_of_le hi h.size) hne).trans (h.block i hi hne)⟩

/-- A slice of integers of kind kd that reads as l; it lies below block B. -/
def Arr1 (kd : IntKind) (w : World) (B : Nat) (A : Option Addr) (l : List Int) : Prop :=
  ∀ k x, l[k]? = some x → ∃ b off, A = some ⟨b, off, none⟩ ∧ b < B ∧ w.cell? ⟨b, off + k, none⟩ = some (.int kd x)
/-- A slice of structs of two ints that reads as l; it lies below block B. -/
def Arr2 (w : World) (B : Nat) (A : Option Addr) (l : List (Int × Int)) : Prop :=
  ∀ k x, l[k]? = some x → ∃ b off, A = some ⟨b, off, none⟩ ∧ b < B ∧ w.cell? ⟨b, off + k * 2, none⟩ = some (.int .i64 x.1) ∧ w.cell? ⟨b, off + k * 2 + 1, none⟩ = some (.int .i64 x.2)
section
variable {kd : IntKind} {w w' : World} {B B' : Nat} {A : Option Addr} {l : List Int} {m : List (Int × Int)}
theorem Arr1.nil : Arr1 kd w B A [] := fun k x h => by simp at h
theorem Arr2.nil : Arr2 w B A [] := fun k x h => by simp at h
theorem Arr1.keep (h : Arr1 kd w B A l) (hk : ∀ p : Addr, p.block < B → w'.cell? p = w.cell? p) : Arr1 kd w' B A l := fun k x hx => by
  obtain ⟨b, off, e, hb, hc⟩ := h k x hx
  exact ⟨b, off, e, hb, (hk ⟨b, off + k, none⟩ hb).trans hc⟩
theorem Arr2.keep (h : Arr2 w B A m) (hk : ∀ p : Addr, p.block < B → w'.cell? p = w.cell? p) : Arr2 w' B A m := fun k x hx => by
  obtain ⟨b, off, e, hb, hc, hd⟩ := h k x hx
  exact ⟨b, off, e, hb, (hk ⟨b, off + k * 2, none⟩ hb).trans hc, (hk ⟨b, off + k * 2 + 1, none⟩ hb).trans hd⟩
theorem Arr1.more (h : Arr1 kd w B A l) (hB : B ≤ B') : Arr1 kd w B' A l := fun k x hx => by
  obtain ⟨b, off, e, hb, hc⟩ := h k x hx
  exact ⟨b, off, e, by omega, hc⟩
theorem Arr2.more (h : Arr2 w B A m) (hB : B ≤ B') : Arr2 w B' A m := fun k x hx => by
  obtain ⟨b, off, e, hb, hc⟩ := h k x hx
  exact ⟨b, off, e, by omega, hc⟩
theorem Arr1.below {C : Nat} (h : Arr1 kd w B A l) (hb : Below C w w') (hC : B ≤ C) : Arr1 kd w' B A l := h.keep fun _ hp => hb.cell (by omega)
theorem Arr2.below {C : Nat} (h : Arr2 w B A m) (hb : Below C w w') (hC : B ≤ C) : Arr2 w' B A m := h.keep fun _ hp => hb.cell (by omega)
theorem Arr1.drew (h : Arr1 kd w B A l) : Arr1 kd w.drew B A l := h
theorem Arr2.drew (h : Arr2 w B A m) : Arr2 w.drew B A m := h
theorem Arr1.alloc (h : Arr1 kd w B A l) (hB : B ≤ w.heap.size) (o : Obj) : Arr1 kd (w.alloc o) B A l := h.keep fun p hp => World.cell?_alloc_lt w o p (by omega)
theorem Arr2.alloc (h : Arr2 w B A m) (hB : B ≤ w.heap.size) (o : Obj) : Arr2 (w.alloc o) B A m := h.keep fun p hp => World.cell?_alloc_lt w o p (by omega)
theorem Arr1.setCell (h : Arr1 kd w B A l) {p : Addr} (hB : B ≤ p.block) (u : Value) : Arr1 kd (w.setCell p u) B A l :=
  h.keep fun q hq => World.cell?_setCell_other w p q u (fun e => by subst e; omega)
theorem Arr2.setCell (h : Arr2 w B A m) {p : Addr} (hB : B ≤ p.block) (u : Value) : Arr2 (w.setCell p u) B A m :=
  h.keep fun q hq => World.cell?_setCell_other w p q u (fun e => by subst e; omega)
theorem Arr1.take (h : Arr1 kd w B A l) (n : Nat) : Arr1 kd w B A (l.take n) := fun k x hx => h k x (by
  rw [List.getElem?_take] at hx
  split at hx
  · exact hx
  · cases hx)
theorem Arr2.take (h : Arr2 w B A m) (n : Nat) : Arr2 w B A (m.take n) := fun k x hx => h k x (by
  rw [List.getElem?_take] at hx
  split at hx
  · exact hx
  · cases hx)
end

/-- The cells of a list of pairs. -/
def flat2 (m : List (Int × Int)) : List Value := m.flatMap fun x => [.int .i64 x.1, .int .i64 x.2]
theorem flat2_snoc (m : List (Int × Int)) (x : Int × Int) : flat2 (m ++ [x]) = flat2 m ++ [.int .i64 x.1, .int .i64 x.2] := by simp [flat2]
theorem flat2_length (m : List (Int × Int)) : (flat2 m).length = m.length * 2 := by
  induction m with
  | nil => rfl
  | cons x r ih =>
    have e : flat2 (x :: r) = [.int .i64 x.1, .int .i64 x.2] ++ flat2 r := by simp [flat2]
    rw [e, List.length_append, ih]
    simp
    omega
theorem flat2_at (m : List (Int × Int)) : ∀ (k : Nat) (x : Int × Int), m[k]? = some x → (flat2 m)[k * 2]? = some (.int .i64 x.1) ∧ (flat2 m)[k * 2 + 1]? = some (.int .i64 x.2) := by
  induction m with
  | nil => intro k x h; simp at h
  | cons y r ih =>
    intro k x h
    have e : flat2 (y :: r) = .int .i64 y.1 :: .int .i64 y.2 :: flat2 r := by simp [flat2]
    rw [e]
    cases k with
    | zero =>
      simp at h
      subst h
      simp
    | succ k =>
      have hk := ih k x (by simpa using h)
      have e1 : (k + 1) * 2 = k * 2 + 1 + 1 := by omega
      rw [e1]
      simpa using hk
theorem own_cells {w : World} {base e size n c : Nat} {A : Option Addr} {xs : List Value} (h : w.ownsRow base e size (.slice A n c) n xs) (hn : 0 < n) :
    ∃ g, A = some ⟨g, 0, none⟩ ∧ base ≤ g ∧ g < w.heap.size ∧ ∀ j u, xs[j]? = some u → w.cell? ⟨g, 0 + j, none⟩ = some u := by
  obtain ⟨hx, ⟨_, h0⟩ | ⟨g, cap, cur, hv, hb, hh, hle, _, hsz, hcur⟩⟩ := h
  · omega
  · have hA : A = some ⟨g, 0, none⟩ := by injection hv
    refine ⟨g, hA, hb, ?_, fun j u hu => ?_⟩
    · rcases Nat.lt_or_ge g w.heap.size with hlt | hge
      · exact hlt
      · rw [Array.getElem?_eq_none hge] at hh
        cases hh
    · rw [cell_of_row w g (0 + j) cur e (0, 0) hh, Nat.zero_add]
      rw [← hcur, List.getElem?_take] at hu
      split at hu
      · simpa using hu
      · cases hu
theorem own_arr1 {kd : IntKind} {w : World} {base e n c : Nat} {A : Option Addr} {l : List Int} (h : w.ownsRow base e 1 (.slice A n c) n (l.map (Value.int kd))) : Arr1 kd w w.heap.size A l := by
  intro k x hx
  have hl : n = l.length := by have := h.1; simp at this; omega
  have hk : k < l.length := (List.getElem?_eq_some_iff.1 hx).1
  obtain ⟨g, hA, _, hlt, hc⟩ := own_cells h (by omega)
  exact ⟨g, 0, hA, hlt, hc k (.int kd x) (by simp [hx])⟩
theorem own_arr2 {w : World} {base e n c : Nat} {A : Option Addr} {l : List (Int × Int)} (h : w.ownsRow base e 2 (.slice A n c) n (flat2 l)) : Arr2 w w.heap.size A l := by
  intro k x hx
  have hl : n = l.length := by have := h.1; rw [flat2_length] at this; omega
  have hk : k < l.length := (List.getElem?_eq_some_iff.1 hx).1
  obtain ⟨g, hA, _, hlt, hc⟩ := own_cells h (by omega)
  obtain ⟨h1, h2⟩ := flat2_at l k x hx
  exact ⟨g, 0, hA, hlt, hc _ _ h1, hc _ _ h2⟩
theorem own_form {w : World} {base e size n : Nat} {v : Value} {xs : List Value} (h : w.ownsRow base e size v n xs) : ∃ A cap, v = .slice A n cap ∧ n ≤ cap ∧ ∀ g, v.ownBlock = some g → base ≤ g := by
  rcases h.2 with ⟨rfl, rfl⟩ | ⟨g, cap, cur, rfl, hb, _, hle, _⟩
  · exact ⟨none, 0, rfl, Nat.le_refl _, fun g hg => by cases hg⟩
  · exact ⟨_, cap, rfl, hle, fun g' hg => by
      have e : g = g' := by injection hg
      omega⟩
theorem own_keep {w w' : World} {base e size n C : Nat} {v : Value} {xs : List Value} (h : w.ownsRow base e size v n xs) (hb : Below C w w') (hC : w.heap.size ≤ C) : w'.ownsRow base e size v n xs :=
  h.kept (grown_of_below hb hC none) (by cases hv : v.ownBlock <;> simp)
theorem own_set {w : World} {base e size n : Nat} {v : Value} {xs : List Value} (h : w.ownsRow base e size v n xs) {a : Addr} (ha : a.block < base) (u : Value) : (w.setCell a u).ownsRow base e size v n xs := ownsRow_setCell_below h ha u
theorem own_lt {w : World} {base e size n g : Nat} {v : Value} {xs : List Value} (h : w.ownsRow base e size v n xs) (hg : v.ownBlock = some g) : base ≤ g ∧ g < w.heap.size := by
  rcases h.2 with ⟨rfl, rfl⟩ | ⟨g', cap, cur, rfl, hb, hh, _⟩
  · cases hg
  · have e : g' = g := by injection hg
    subst e
    refine ⟨hb, ?_⟩
    rcases Nat.lt_or_ge g' w.heap.size with hlt | hge
    · exact hlt
    · rw [Array.getElem?_eq_none hge] at hh
      cases hh
theorem own_base {w : World} {base base' e size n : Nat} {v : Value} {xs : List Value} (h : w.ownsRow base e size v n xs) (hb : base' ≤ base) : w.ownsRow base' e size v n xs := by
  obtain ⟨h1, h2⟩ := h
  refine ⟨h1, ?_⟩
  rcases h2 with h0 | ⟨g, cap, cur, hv, hg, hr⟩
  · exact .inl h0
  · exact .inr ⟨g, cap, cur, hv, by omega, hr⟩
theorem cell_one_at {w : World} {g : Nat} (hg : g = w.heap.size) (x : Value) (t : TypeId) : ∀ j u, [x][j]? = some u → (w.alloc (.cells #[x] t)).cell? ((⟨g, 0, none⟩ : Addr).add j) = some u := by subst hg; exact cell_one_new w x t
theorem cell_two_at {w : World} {g : Nat} (hg : g = w.heap.size) (x y : Value) (t : TypeId) : ∀ j u, [x, y][j]? = some u → (w.alloc (.cells #[x, y] t)).cell? ((⟨g, 0, none⟩ : Addr).add j) = some u := by
  subst hg
  intro j u hu
  have e0 : (⟨w.heap.size, 0, none⟩ : Addr).add j = ⟨w.heap.size, j, none⟩ := by unfold Addr.add; split <;> simp_all
  rw [e0, (Blk.new w t #[x, y]).cell j]
  simpa using hu
end Go.Proofs.Ytogeficooemngaa
