/-
  Rules for walks whose frame is a list of known slots and whose memory is a list of known blocks: each rule takes one operation.
-/
import Derived.Test.YtogeficooemngaaBase
import Derived.Deep.Quiet
import Derived.StillTail
import Derived.KernelRfl
import Derived.IntWalk
import Derived.LoopN
import Derived.Laws.OwnMore
import Derived.Maps.AppendAt
namespace Go.Proofs.Ytogeficooemngaa
open Go.RowKit
set_option linter.unusedVariables false
set_option linter.unusedSimpArgs false

/-- The value of slot i in a list of known slots. -/
def look {α : Type} (i : Nat) : List (Nat × Option α) → Option α
  | [] => none
  | (j, v) :: r => match Nat.beq j i with
    | true => v
    | false => look i r
theorem look_self {α : Type} (i : Nat) (v : Option α) (F : List (Nat × Option α)) : look i ((i, v) :: F) = v := by
  simp [look]
theorem look_other {α : Type} {i j : Nat} (h : j ≠ i) (v : Option α) (F : List (Nat × Option α)) : look i ((j, v) :: F) = look i F := by
  have e : Nat.beq j i = false := by
    cases hb : Nat.beq j i with
    | false => rfl
    | true => exact absurd (Nat.eq_of_beq_eq_true hb) h
  simp [look, e]

/-- The frame has n slots, no deferred calls, and the slots of F are known. -/
structure Fr (n : Nat) (F : List (Nat × Option Value)) (a : Act) : Prop where
  sz : a.tmps.size = n
  df : a.defers = []
  has : ∀ i v, look i F = some v → a.tmps[i]? = some v

section
variable {n : Nat} {F G : List (Nat × Option Value)} {a : Act}
theorem Fr.getD (h : Fr n F a) {i : Nat} {v : Value} (hi : look i F = some v) : a.tmps.getD i undef = v := by
  have := h.has i v hi
  simp [Array.getD_eq_getD_getElem?, this]
theorem Fr.put (h : Fr n F a) {d : Nat} (hd : d < n) (v : Value) : Fr n ((d, some v) :: F) (a.put (some d) v) := by
  refine ⟨by simp [Act.put, h.sz], by simp [Act.put, h.df], fun i u hu => ?_⟩
  by_cases e : d = i
  · subst e
    rw [look_self] at hu
    injection hu with hu
    subst hu
    simp [Act.put, h.sz, hd]
  · rw [look_other e] at hu
    have := h.has i u hu
    simp only [Act.put, Array.getElem?_setIfInBounds, if_neg e]
    exact this
theorem Fr.nil (h : Fr n F a) : Fr n [] a := ⟨h.sz, h.df, fun _ _ hv => by simp [look] at hv⟩
theorem Fr.cons (h : Fr n F a) {i : Nat} {v v' : Value} (hv : a.tmps[i]? = some v') (e : v' = v) : Fr n ((i, some v) :: F) a := by
  refine ⟨h.sz, h.df, fun j u hu => ?_⟩
  by_cases eq : i = j
  · subst eq
    rw [look_self] at hu
    injection hu with hu
    subst hu e
    exact hv
  · rw [look_other eq] at hu
    exact h.has j u hu
/-- A known slot more, read off a longer list. -/
theorem Fr.c (h : Fr n G a) (h0 : Fr n F a) {i : Nat} {v v' : Value} (hv : look i F = some v') (e : v' = v) : Fr n ((i, some v) :: G) a := h.cons (h0.has i v' hv) e
theorem Fr.splitP (h : Fr n F a) {i : Nat} {p : Prop} {_ : Decidable p} (hi : look i F = some (.bool (decide p))) :
    (p ∧ Fr n ((i, some (.bool true)) :: F) a) ∨ (¬ p ∧ Fr n ((i, some (.bool false)) :: F) a) := by
  by_cases hp : p
  · exact .inl ⟨hp, h.c h hi (by rw [decide_eq_true hp])⟩
  · exact .inr ⟨hp, h.c h hi (by rw [decide_eq_false hp])⟩
theorem Fr.splitB (h : Fr n F a) {i : Nat} {b : Bool} (hi : look i F = some (.bool b)) :
    (b = true ∧ Fr n ((i, some (.bool true)) :: F) a) ∨ (b = false ∧ Fr n ((i, some (.bool false)) :: F) a) := by
  cases b
  · exact .inr ⟨rfl, h.c h hi rfl⟩
  · exact .inl ⟨rfl, h.c h hi rfl⟩
end

/-- What an operand holds, by the known slots. -/
def evF (F : List (Nat × Option Value)) : Operand → Value
  | .tmp t => (look t F).getD undef
  | .const v => v
  | .global g => .pointer (some ⟨g, 0, none⟩)
  | .func f => .func (.func f) #[] #[]
def knows (F : List (Nat × Option Value)) : Operand → Bool
  | .tmp t => (look t F).isSome
  | _ => true
/-- All operands of an operation are known. -/
def known (F : List (Nat × Option Value)) (o : Oper) : Bool :=
  match o.op with
  | .select .. => false
  | _ => o.op.operands.toList.all (knows F)
theorem Fr.eval {n : Nat} {F : List (Nat × Option Value)} {a : Act} (h : Fr n F a) {x : Operand} (hk : knows F x = true) : a.eval x = evF F x := by
  cases x with
  | tmp t =>
    simp only [knows, Option.isSome_iff_exists] at hk
    obtain ⟨v, hv⟩ := hk
    simp only [Act.eval, evF, h.getD hv, hv, Option.getD_some]
  | const v => rfl
  | global g => rfl
  | func f => rfl
theorem Fr.exec {n : Nat} {F : List (Nat × Option Value)} {a : Act} (h : Fr n F a) {o : Oper} (hk : known F o = true) : execOp a.eval o = execOp (evF F) o := by
  have hs : ∀ cs b, o.op ≠ .select cs b := by
    intro cs b e
    simp [known, e] at hk
  refine execOp_congr o hs fun x hx => h.eval ?_
  have hk' : o.op.operands.toList.all (knows F) = true := by
    unfold known at hk
    split at hk
    · cases hk
    · exact hk
  exact List.all_eq_true.1 hk' x (by simpa using hx)

/-- The operation yields v in every world of the class. -/
def Yld (P : Program) (o : Oper) (a : Act) (C : World → Prop) (v : Value) : Prop := ∀ w, C w → o.quietAt P a C w v

section
variable {P : Program} {n : Nat} {F : List (Nat × Option Value)} {a : Act} {o : Oper} {C : World → Prop} {v v0 : Value} {w : World} {ops : Array Oper} {rest : List Oper} {Q : Exit → Act → World → Prop} {d : Nat}

theorem yld_pure (hF : Fr n F a) (hk : known F o = true) (hr : ∀ w, (execOp (evF F) o).run P w = .ok (.value v0) w) (hv : v0 = v) : Yld P o a C v := by
  intro w _
  unfold Oper.quietAt
  rw [hF.exec hk, hr w]
  exact ⟨rfl, hv⟩

/-- Is the operation carried out, by the known slots? -/
def wantF (ops : Array Oper) (F : List (Nat × Option Value)) (o : Oper) : Option Bool :=
  match o.guard with
  | none => some true
  | some (j, want) => match (ops[j]?).bind (·.dst) with
    | none => none
    | some s => match look s F with
      | some (.bool b) => some (match b, want with | true, true => true | false, false => true | _, _ => false)
      | some (.tuple _) => some false
      | _ => none
theorem Fr.wanted (h : Fr n F a) {b : Bool} (hw : wantF ops F o = some b) : Region.wanted o (yielded ops a.tmps) = b := by
  unfold wantF at hw
  unfold Region.wanted
  split at hw
  · rename_i e
    injection hw with hw
    subst hw
    simp [e]
  · rename_i j want e
    simp only [e]
    split at hw
    · cases hw
    · rename_i s hs
      split at hw
      · rename_i c hc
        have hy : yielded ops a.tmps j = some c := by simp [yielded, hs, h.has _ _ hc]
        rw [hy]
        injection hw with hw
        subst hw
        cases c <;> cases want <;> rfl
      · rename_i c hc
        have hy : yielded ops a.tmps j = none := by simp [yielded, hs, h.has _ _ hc]
        injection hw with hw
        subst hw
        rw [hy]
        rfl
      · cases hw

/-- One operation comes up, and K is asked behind it. -/
def One (P : Program) (ops : Array Oper) (Q : Exit → Act → World → Prop) (o : Oper) (K : Act → World → Prop) (a : Act) (w : World) : Prop :=
  if Region.wanted o (yielded ops a.tmps) then o.wp P a w K Q ∨ (o.asks P a w ∧ LetsOut Q) else K (a.put o.dst undef) w
theorem wl (h : One P ops Q o (wpList P ops Q rest) a w) : wpList P ops Q (o :: rest) a w := h
section
variable {K : Act → World → Prop}
/-- One operation that yields a value in a class of worlds. -/
theorem sL (hF : Fr n F a) (hC : C w) (hg : wantF ops F o = some true) (hd : o.dst = some d) (hn : d < n) (hy : Yld P o a C v)
    (k : ∀ a' w', Fr n ((d, some v) :: F) a' → C w' → K a' w') : One P ops Q o K a w := by
  unfold One
  rw [if_pos (hF.wanted hg)]
  refine .inl (Oper.wp_of_quiet (C := C) (K := fun a' => ∀ w', C w' → K a' w') hC (fun a w' hw' h => h w' hw') ⟨v, hy, fun w' hw' => ?_⟩)
  rw [hd]
  exact k _ _ (hF.put hn v) hw'
/-- The same, of an operation that reads no memory. -/
theorem sP (hF : Fr n F a) (hg : wantF ops F o = some true) (hd : o.dst = some d) (hn : d < n) (hk : known F o = true) (hr : ∀ w, (execOp (evF F) o).run P w = .ok (.value v0) w) (hv : v0 = v)
    (k : ∀ a', Fr n ((d, some v) :: F) a' → K a' w) : One P ops Q o K a w :=
  sL (C := fun w' => w' = w) hF rfl hg hd hn (yld_pure hF hk hr hv) fun a' w' h e => by subst e; exact k a' h
theorem sSkip (hF : Fr n F a) (hg : wantF ops F o = some false) (hd : o.dst = some d) (hn : d < n)
    (k : ∀ a', Fr n ((d, some undef) :: F) a' → K a' w) : One P ops Q o K a w := by
  unfold One
  rw [if_neg (by rw [hF.wanted hg]; simp), hd]
  exact k _ (hF.put hn _)
theorem sSkip0 (hF : Fr n F a) (hg : wantF ops F o = some false) (hd : o.dst = none)
    (k : K a w) : One P ops Q o K a w := by
  unfold One
  rw [if_neg (by rw [hF.wanted hg]; simp), hd]
  exact k
/-- An operation that does something to the world. -/
theorem sW {w' : World} (hF : Fr n F a) (hg : wantF ops F o = some true) (hd : o.dst = some d) (hn : d < n) (hk : known F o = true) (hr : (execOp (evF F) o).run P w = .ok (.value v) w')
    (k : ∀ a', Fr n ((d, some v) :: F) a' → K a' w') : One P ops Q o K a w := by
  unfold One
  rw [if_pos (hF.wanted hg)]
  refine .inl ?_
  unfold Oper.wp
  rw [hF.exec hk, hr, Oper.upon_value, hd]
  exact k _ (hF.put hn _)
theorem sW0 {w' : World} (hF : Fr n F a) (hg : wantF ops F o = some true) (hd : o.dst = none) (hk : known F o = true) (hr : (execOp (evF F) o).run P w = .ok .skip w')
    (k : K a w') : One P ops Q o K a w := by
  unfold One
  rw [if_pos (hF.wanted hg)]
  refine .inl ?_
  unfold Oper.wp
  rw [hF.exec hk, hr, Oper.upon_skip, hd]
  exact k
/-- A call. -/
theorem sC {f : FuncId} {args : Array Value} (hF : Fr n F a) (hg : wantF ops F o = some true) (hd : o.dst = some d) (hn : d < n) (hk : known F o = true) (hr : ∀ w, (execOp (evF F) o).run P w = .ok (.enter f args) w)
    (k : Calls P f args w fun e w' => ∃ v, e = .returned v ∧ ∀ a', Fr n ((d, some v) :: F) a' → K a' w') : One P ops Q o K a w := by
  unfold One
  rw [if_pos (hF.wanted hg)]
  refine .inl ?_
  unfold Oper.wp
  rw [hF.exec hk, hr, Oper.upon_enter, hd]
  refine k.mono fun e w' ⟨v, he, h⟩ => ?_
  subst he
  exact h _ (hF.put hn v)
theorem sC0 {f : FuncId} {args : Array Value} (hF : Fr n F a) (hg : wantF ops F o = some true) (hd : o.dst = none) (hk : known F o = true) (hr : ∀ w, (execOp (evF F) o).run P w = .ok (.enter f args) w)
    (k : Calls P f args w fun e w' => ∃ v, e = .returned v ∧ K a w') : One P ops Q o K a w := by
  unfold One
  rw [if_pos (hF.wanted hg)]
  refine .inl ?_
  unfold Oper.wp
  rw [hF.exec hk, hr, Oper.upon_enter, hd]
  refine k.mono fun e w' ⟨v, he, h⟩ => ?_
  subst he
  exact h
end
/-- One operation in a region that draws its order. -/
theorem qL {R : Act → Prop} (hF : Fr n F a) (hg : wantF ops F o = some true) (hd : o.dst = some d) (hn : d < n) (hy : Yld P o a C v)
    (k : ∀ a', Fr n ((d, some v) :: F) a' → wpQuiet P ops C R rest a') : wpQuiet P ops C R (o :: rest) a := by
  unfold wpQuiet
  rw [if_pos (hF.wanted hg)]
  refine ⟨v, hy, ?_⟩
  rw [hd]
  exact k _ (hF.put hn v)
theorem qP {R : Act → Prop} (hF : Fr n F a) (hg : wantF ops F o = some true) (hd : o.dst = some d) (hn : d < n) (hk : known F o = true) (hr : ∀ w, (execOp (evF F) o).run P w = .ok (.value v0) w) (hv : v0 = v)
    (k : ∀ a', Fr n ((d, some v) :: F) a' → wpQuiet P ops C R rest a') : wpQuiet P ops C R (o :: rest) a :=
  qL hF hg hd hn (yld_pure hF hk hr hv) k
theorem qSkip {R : Act → Prop} (hF : Fr n F a) (hg : wantF ops F o = some false) (hd : o.dst = some d) (hn : d < n)
    (k : ∀ a', Fr n ((d, some undef) :: F) a' → wpQuiet P ops C R rest a') : wpQuiet P ops C R (o :: rest) a := by
  unfold wpQuiet
  rw [if_neg (by rw [hF.wanted hg]; simp), hd]
  exact k _ (hF.put hn _)
theorem cT {c : Operand} {x y : Code} (hF : Fr n F a) (hk : knows F c = true) (hc : evF F c = .bool true) (h : x.wp P Q a w) : (Code.cond c x y).wp P Q a w := wp_cond_true ((hF.eval hk).trans hc) h
theorem cF {c : Operand} {x y : Code} (hF : Fr n F a) (hk : knows F c = true) (hc : evF F c = .bool false) (h : y.wp P Q a w) : (Code.cond c x y).wp P Q a w := wp_cond_false ((hF.eval hk).trans hc) h
end

/-- What is known of memory: a block known whole that the call made; cells that can be read from an address on; a slice of the call's own that may grow. -/
inductive Ent where
  | row (b : Nat) (t : TypeId) (cs : Array Value)
  | ro (A : Option Addr) (xs : List Value)
  | own (v : Value) (e size n : Nat) (xs : List Value)
  | obj (b : Nat) (o : Obj)
def Ent.blk : Ent → Option Nat
  | .row b _ _ => some b
  | .obj b _ => some b
  | .ro _ [] => none
  | .ro A (_ :: _) => A.map (·.block)
  | .own v _ _ _ _ => v.ownBlock
def Ent.wr : Ent → Bool
  | .ro .. => false
  | _ => true
/-- The cells from A on can be read. -/
def Ro (w : World) (A : Option Addr) (xs : List Value) : Prop := ∀ j u, xs[j]? = some u → ∃ b off, A = some ⟨b, off, none⟩ ∧ w.cell? ⟨b, off + j, none⟩ = some u
def Ent.ok (w : World) (B : Nat) : Ent → Prop
  | .row b t cs => Blk w b t cs ∧ B ≤ b
  | .ro A xs => Ro w A xs
  | .own v e size n xs => w.ownsRow B e size v n xs
  | .obj b o => w.heap[b]? = some o ∧ B ≤ b
def Ent.apart (x y : Ent) : Prop := (x.wr = true ∨ y.wr = true) → ∀ b, x.blk = some b → y.blk ≠ some b
structure Mem (B : Nat) (w0 : World) (L : List (Nat × Option Ent)) (w : World) : Prop where
  bel : Below B w0 w
  lo : B ≤ w.heap.size
  ok : ∀ k e, look k L = some e → e.ok w B
  ap : ∀ k j x y, k ≠ j → look k L = some x → look j L = some y → x.apart y

theorem cell_lt {w : World} {p : Addr} {v : Value} (h : w.cell? p = some v) : p.block < w.heap.size := by
  rcases Nat.lt_or_ge p.block w.heap.size with hlt | hge
  · exact hlt
  · unfold World.cell? at h
    rw [Array.getElem?_eq_none hge] at h
    cases h
theorem Ro.keep {w w' : World} {A : Option Addr} {xs : List Value} (h : Ro w A xs) (hk : ∀ b off v, A.map (·.block) = some b → w.cell? ⟨b, off, none⟩ = some v → w'.cell? ⟨b, off, none⟩ = some v) : Ro w' A xs := fun j u hu => by
  obtain ⟨b, off, e, hc⟩ := h j u hu
  exact ⟨b, off, e, hk b (off + j) u (by rw [e]; rfl) hc⟩
theorem Ro.below {w w' : World} {A : Option Addr} {xs : List Value} (h : Ro w A xs) (hb : Below w.heap.size w w') : Ro w' A xs :=
  h.keep fun b off v _ hc => (hb.cell (p := ⟨b, off, none⟩) (cell_lt hc)).trans hc
theorem Ro.nil {w : World} {A : Option Addr} : Ro w A [] := fun j u h => by simp at h
theorem Ent.blk_lt {w : World} {B : Nat} {e : Ent} (h : e.ok w B) {b : Nat} (hb : e.blk = some b) : b < w.heap.size := by
  cases e with
  | row b' t cs =>
    simp only [Ent.blk, Option.some.injEq] at hb
    subst hb
    exact h.1.lt
  | ro A xs =>
    cases xs with
    | nil => cases hb
    | cons x r =>
      obtain ⟨b', off, e, hc⟩ := h 0 x rfl
      subst e
      simp only [Ent.blk, Option.map_some, Option.some.injEq] at hb
      subst hb
      exact cell_lt hc
  | own v e size n xs => exact (own_lt h hb).2
  | obj b' o =>
    simp only [Ent.blk, Option.some.injEq] at hb
    subst hb
    exact (Array.getElem?_eq_some_iff.1 h.1).1
theorem Ent.wr_ge {w : World} {B : Nat} {e : Ent} (h : e.ok w B) (hw : e.wr = true) {b : Nat} (hb : e.blk = some b) : B ≤ b := by
  cases e with
  | row b' t cs =>
    simp only [Ent.blk, Option.some.injEq] at hb
    subst hb
    exact h.2
  | ro A xs => cases hw
  | own v e size n xs => exact (own_lt h hb).1
  | obj b' o =>
    simp only [Ent.blk, Option.some.injEq] at hb
    subst hb
    exact h.2
theorem Ent.below {w w' : World} {B : Nat} {e : Ent} (h : e.ok w B) (hb : Below w.heap.size w w') : e.ok w' B := by
  cases e with
  | row b t cs => exact ⟨h.1.below hb h.1.lt, h.2⟩
  | ro A xs => exact Ro.below h hb
  | own v e size n xs => exact own_keep h hb (Nat.le_refl _)
  | obj b o => exact ⟨(hb.block b (Array.getElem?_eq_some_iff.1 h.1).1).trans h.1, h.2⟩

section
variable {B : Nat} {w0 w w' : World} {L L' : List (Nat × Option Ent)}
theorem Ent.apart.symm {x y : Ent} (h : x.apart y) : y.apart x := fun hw b hy hx => h hw.symm b hx hy
theorem Mem.start (w : World) : Mem w.heap.size w [] w := ⟨Below.refl _ _, Nat.le_refl _, (fun _ _ h => by cases h), (fun _ _ _ _ _ h => by cases h)⟩
/-- All that is in L' is in L. -/
def Sub (L' L : List (Nat × Option Ent)) : Prop := ∀ k e, look k L' = some e → look k L = some e
theorem Sub.nil : Sub [] L := fun _ _ h => by cases h
theorem Sub.c (h : Sub L' L) {k : Nat} {e e' : Ent} (hk : look k L = some e') (he : e' = e) : Sub ((k, some e) :: L') L := fun j x hx => by
  by_cases eq : k = j
  · subst eq
    rw [look_self] at hx
    injection hx with hx
    subst hx he
    exact hk
  · rw [look_other eq] at hx
    exact h j x hx
theorem Mem.sub (h : Mem B w0 L w) (hs : Sub L' L) : Mem B w0 L' w := ⟨h.bel, h.lo, fun k e he => h.ok k e (hs k e he), fun k j x y hne hx hy => h.ap k j x y hne (hs k x hx) (hs j y hy)⟩
theorem Mem.below (h : Mem B w0 L w) (hb : Below w.heap.size w w') : Mem B w0 L w' :=
  ⟨h.bel.trans (hb.mono h.lo), Nat.le_trans h.lo hb.size, fun k e he => Ent.below (h.ok k e he) hb, h.ap⟩
theorem Mem.drew (h : Mem B w0 L w) : Mem B w0 L { w with drawn := w.drawn + 1 } := h.below ⟨rfl, rfl, rfl, Nat.le_refl _, fun _ _ => rfl⟩
/-- An entry more (or in the place of an older one). -/
theorem Mem.add (h : Mem B w0 L w) (k : Nat) {e : Ent} (he : e.ok w B) (hf : ∀ j x, k ≠ j → look j L = some x → e.apart x) : Mem B w0 ((k, some e) :: L) w := by
  refine ⟨h.bel, h.lo, fun j x hx => ?_, fun j1 j2 x y hne hx hy => ?_⟩
  · by_cases eq : k = j
    · subst eq
      rw [look_self] at hx
      injection hx with hx
      subst hx
      exact he
    · rw [look_other eq] at hx
      exact h.ok j x hx
  · by_cases e1 : k = j1
    · subst e1
      rw [look_self] at hx
      injection hx with hx
      subst hx
      rw [look_other hne] at hy
      exact hf j2 y hne hy
    · rw [look_other e1] at hx
      by_cases e2 : k = j2
      · subst e2
        rw [look_self] at hy
        injection hy with hy
        subst hy
        exact (hf j1 x e1 hx).symm
      · rw [look_other e2] at hy
        exact h.ap j1 j2 x y hne hx hy
theorem Mem.fresh (h : Mem B w0 L w) (hb : Below w.heap.size w w') (k : Nat) {e : Ent} (he : e.ok w' B) (hn : ∀ b, e.blk = some b → w.heap.size ≤ b) : Mem B w0 ((k, some e) :: L) w' :=
  (h.below hb).add k he fun j x _ hx _ b h1 h2 => by
    have := Ent.blk_lt (h.ok j x hx) h2
    have := hn b h1
    omega
theorem Mem.alloc (h : Mem B w0 L w) (k : Nat) (t : TypeId) (cs : Array Value) : Mem B w0 ((k, some (.row w.heap.size t cs)) :: L) (w.alloc (.cells cs t)) :=
  h.fresh ((Below.refl _ _).alloc (Nat.le_refl _) _) k ⟨Blk.new w t cs, h.lo⟩ fun b hb => by
    injection hb with hb
    omega
/-- Cells that lay there when the call began. -/
theorem Mem.addOld (h : Mem B w0 L w) (k : Nat) {A : Option Addr} {xs : List Value} (hr : Ro w0 A xs) (hB : w0.heap.size ≤ B) : Mem B w0 ((k, some (.ro A xs)) :: L) w := by
  have hlt : ∀ b, (Ent.ro A xs).blk = some b → b < B := fun b hb => by
    have := Ent.blk_lt (w := w0) (B := B) (e := .ro A xs) hr hb
    omega
  refine h.add k (hr.keep fun b off v hb hc => ?_) fun j e _ he hw b hb heb => ?_
  · exact (h.bel.cell (p := ⟨b, off, none⟩) (Nat.lt_of_lt_of_le (cell_lt hc) hB)).trans hc
  · have := hlt b hb
    rcases hw with hw | hw
    · cases hw
    · have := Ent.wr_ge (h.ok j e he) hw heb
      omega
/-- What is known, but for one entry, stays where the entry's block alone has turned. -/
theorem Ent.grown {e : Ent} {row : Option Nat} (h : e.ok w B) (hg : w.grownBy w' row) (hne : ∀ b, e.blk = some b → row ≠ some b) : e.ok w' B := by
  cases e with
  | row b t cs => exact ⟨h.1.grown hg (fun e => hne b rfl e.symm), h.2⟩
  | ro A xs =>
    intro j u hu
    obtain ⟨b, off, e, hc⟩ := h j u hu
    refine ⟨b, off, e, ?_⟩
    have hb : (Ent.ro A xs).blk = some b := by
      cases xs with
      | nil => simp at hu
      | cons x r => simp [Ent.blk, e]
    exact (World.cell?_of_block (a := ⟨b, off + j, none⟩) (hg.block b (cell_lt hc) (fun e => hne b hb e.symm))).trans hc
  | own v e size n xs =>
    refine World.ownsRow.kept h hg ?_
    cases hv : v.ownBlock with
    | none => exact .inl rfl
    | some b => exact .inr fun e => hne b hv e.symm
  | obj b o => exact ⟨(hg.block b (Array.getElem?_eq_some_iff.1 h.1).1 (fun e => hne b rfl e.symm)).trans h.1, h.2⟩
/-- One entry is turned by a step that writes to its block alone. -/
theorem Mem.turn {k : Nat} {e e' : Ent} (h : Mem B w0 L w) (hi : look k L = some e) (hw : e.wr = true) (hg : w.grownBy w' e.blk) (hok : e'.ok w' B)
    (hb : ∀ b, e'.blk = some b → e.blk = some b ∨ w.heap.size ≤ b) : Mem B w0 ((k, some e') :: L) w' := by
  have hwr : ∀ b, e.blk = some b → B ≤ b := fun b hb => Ent.wr_ge (h.ok k e hi) hw hb
  refine ⟨h.bel.grown hg h.lo hwr, Nat.le_trans h.lo hg.size, fun j x hx => ?_, fun j1 j2 x y hne hx hy => ?_⟩
  · by_cases eq : k = j
    · subst eq
      rw [look_self] at hx
      injection hx with hx
      subst hx
      exact hok
    · rw [look_other eq] at hx
      exact Ent.grown (h.ok j x hx) hg fun b hb' he => h.ap k j e x eq hi hx (.inl hw) b he hb'
  · have hap : ∀ j x, k ≠ j → look j L = some x → e'.apart x := fun j x hne hx _ b h1 h2 => by
      rcases hb b h1 with h3 | h3
      · exact h.ap k j e x hne hi hx (.inl hw) b h3 h2
      · have := Ent.blk_lt (h.ok j x hx) h2
        omega
    by_cases e1 : k = j1
    · subst e1
      rw [look_self] at hx
      injection hx with hx
      subst hx
      rw [look_other hne] at hy
      exact hap j2 y hne hy
    · rw [look_other e1] at hx
      by_cases e2 : k = j2
      · subst e2
        rw [look_self] at hy
        injection hy with hy
        subst hy
        exact (hap j1 x e1 hx).symm
      · rw [look_other e2] at hy
        exact h.ap j1 j2 x y hne hx hy
end

def aggD : TypeDesc → Bool
  | .struct _ => true
  | .array _ _ => true
  | _ => false
/-- A type's size, if its values lie in several cells; none: in one. -/
def aggSize (P : Program) (ty : TypeId) : Option (Option Nat) :=
  match P.underlying ty with
  | some (.struct _) | some (.array _ _) => (P.info? ty).map fun i => some i.size
  | some _ => some none
  | none => none
/-- What a load of type ty yields at place off of a row. -/
def rdRow (P : Program) (ty : TypeId) (cs : List Value) (off : Nat) : Option Value :=
  match aggSize P ty with
  | some (some m) => match Nat.ble (off + m) cs.length with
    | true => some (.agg ((cs.drop off).take m).toArray)
    | false => none
  | some none => (cs.drop off).head?
  | none => none
/-- A row after a store of type ty at place off. -/
def wrRow (P : Program) (ty : TypeId) (cs : Array Value) (off : Nat) (v : Value) : Option (Array Value) :=
  match (P.info? ty).map (·.size) with
  | some m => match Nat.beq v.cells.size m && Nat.ble (off + m) cs.size && v.cells.toList.all Value.oneCell' with
    | true => some (cs.toList.take off ++ v.cells.toList ++ cs.toList.drop (off + v.cells.toList.length)).toArray
    | false => none
  | none => none
theorem add_at (b off i : Nat) : (⟨b, off, none⟩ : Addr).add i = ⟨b, off + i, none⟩ := by
  unfold Addr.add
  split
  · simp_all
  · simp
theorem aggSize_some {P : Program} {ty : TypeId} {m : Nat} (h : aggSize P ty = some (some m)) : ∃ d i, P.underlying ty = some d ∧ aggD d = true ∧ P.info? ty = some i ∧ i.size = m := by
  unfold aggSize at h
  split at h
  · rename_i s e
    cases hi : P.info? ty with
    | none => simp [hi] at h
    | some i => exact ⟨_, i, e, rfl, rfl, by simpa [hi] using h⟩
  · rename_i s x e
    cases hi : P.info? ty with
    | none => simp [hi] at h
    | some i => exact ⟨_, i, e, rfl, rfl, by simpa [hi] using h⟩
  · cases h
  · cases h
theorem aggSize_none {P : Program} {ty : TypeId} (h : aggSize P ty = some none) : ∃ d, P.underlying ty = some d ∧ aggD d = false := by
  unfold aggSize at h
  split at h
  · cases hi : P.info? ty <;> simp [hi] at h
  · cases hi : P.info? ty <;> simp [hi] at h
  · rename_i d h1 h2 e
    refine ⟨d, e, ?_⟩
    cases d <;> simp_all [aggD]
  · cases h
theorem isAgg_true {P : Program} {w : World} {ty : TypeId} {d : TypeDesc} (hd : P.underlying ty = some d) (hagg : aggD d = true) : (isAgg ty).run P w = .ok true w := by
  unfold isAgg
  rw [Sem.run_bind, run_underlying hd w]
  cases d <;> simp_all [aggD]
theorem isAgg_false {P : Program} {w : World} {ty : TypeId} {d : TypeDesc} (hd : P.underlying ty = some d) (hagg : aggD d = false) : (isAgg ty).run P w = .ok false w := by
  unfold isAgg
  rw [Sem.run_bind, run_underlying hd w]
  cases d <;> simp_all [aggD]
theorem run_loadVar {P : Program} {w : World} {b off : Nat} {ty : TypeId} {cs : List Value} {v : Value} (hv : rdRow P ty cs off = some v) (hc : ∀ j u, cs[j]? = some u → w.cell? ⟨b, j, none⟩ = some u) :
    (loadVar ty ⟨b, off, none⟩).run P w = .ok v w := by
  unfold rdRow at hv
  split at hv
  · rename_i m hm
    obtain ⟨d, i, hd, hagg, hi, hs⟩ := aggSize_some hm
    split at hv
    · rename_i hle
      injection hv with hv
      subst hv
      have hle' := Nat.le_of_ble_eq_true hle
      have hlen : ((cs.drop off).take m).length = m := by simp; omega
      have hl := run_loadCells_list (P := P) (w := w) ⟨b, off, none⟩ ((cs.drop off).take m) fun j u hu => by
        rw [add_at]
        rw [List.getElem?_take] at hu
        split at hu
        · exact hc _ _ (by simpa using hu)
        · cases hu
      rw [hlen] at hl
      have hag : (isAgg ty).run P w = .ok true w := by
        unfold isAgg
        rw [Sem.run_bind, run_underlying hd w]
        cases d <;> simp_all [aggD]
      simp [loadVar, Sem.run_bind, hag, sizeOf, typeInfo, hi, hs, hl]
    · cases hv
  · rename_i hm
    obtain ⟨d, hd, hagg⟩ := aggSize_none hm
    have hag : (isAgg ty).run P w = .ok false w := by
      unfold isAgg
      rw [Sem.run_bind, run_underlying hd w]
      cases d <;> simp_all [aggD]
    have hcell := hc off v (by simpa using hv)
    simp [loadVar, Sem.run_bind, hag, load, Sem.run, hcell]
  · cases hv
section
variable {P : Program} {n : Nat} {F : List (Nat × Option Value)} {a : Act} {o : Oper} {v : Value} {w w0 : World} {ops : Array Oper} {rest : List Oper} {Q : Exit → Act → World → Prop} {B : Nat} {L : List (Nat × Option Ent)} {i : Nat} {K : Act → World → Prop}
/-- A load from a row of the call's own. -/
theorem yld_row {ty t : TypeId} {x : Operand} {b off : Nat} {cs : Array Value} (hF : Fr n F a) (ho : o.op = .load ty x) (hk : known F o = true) (hx : evF F x = .pointer (some ⟨b, off, none⟩)) (hi : look i L = some (.row b t cs)) (hv : rdRow P ty cs.toList off = some v) :
    Yld P o a (Mem B w0 L) v := by
  intro w hM
  unfold Oper.quietAt
  rw [hF.exec hk]
  have hr : (loadVar ty ⟨b, off, none⟩).run P w = .ok v w := run_loadVar hv fun j u hu => by
    rw [(hM.ok _ _ hi).1.cell j]
    simpa using hu
  simp only [execOp, ho, hx, Instr.loadAt, Instr.sureAddr, Sem.run_bind, Sem.run_pure, Result.andThen_ok, hr]
  exact ⟨rfl, rfl⟩
/-- A store into a row of the call's own. -/
theorem sStore {ty t : TypeId} {x y : Operand} {b off : Nat} {cs cs' : Array Value} (hF : Fr n F a) (hM : Mem B w0 L w) (hg : wantF ops F o = some true) (hd : o.dst = none) (ho : o.op = .store ty x y) (hk : known F o = true) (hx : evF F x = .pointer (some ⟨b, off, none⟩)) (hi : look i L = some (.row b t cs))
    (hv : wrRow P ty cs off (evF F y) = some cs')
    (k : ∀ w', Mem B w0 ((i, some (.row b t cs')) :: L) w' → K a w') : One P ops Q o K a w := by
  unfold wrRow at hv
  split at hv
  · rename_i m hm
    split at hv
    · rename_i hc
      injection hv with hv
      simp only [Bool.and_eq_true] at hc
      obtain ⟨⟨hs, hle⟩, hone⟩ := hc
      have hs' := Nat.eq_of_beq_eq_true hs
      have hle' := Nat.le_of_ble_eq_true hle
      have hrow := (hM.ok _ _ hi).1
      have hst := run_storeCells_at (P := P) b off t (evF F y).cells.toList 0 cs w hrow (by simp; omega) (List.all_eq_true.1 hone)
      rw [Nat.add_zero] at hst
      rw [hv] at hst
      refine sW0 hF hg hd hk (w' := w.setRow b cs') ?_ (k _ ?_)
      · cases hq : P.info? ty with
        | none => simp [hq] at hm
        | some q =>
          have hsz : (evF F y).cells.size = q.size := by simp [hq] at hm; omega
          simp [execOp, ho, hx, Instr.storeAt, Instr.sureAddr, storeVar, sizeOf, typeInfo, hq, hsz, hst]
      · refine hM.turn hi rfl ⟨rfl, rfl, rfl, by simp [World.setRow], fun g _ hne => ?_⟩ ⟨setRow_heap w b cs cs' t _ hrow, (hM.ok _ _ hi).2⟩ fun _ hb => .inl hb
        simp only [World.setRow, Array.getElem?_modify]
        rw [if_neg (fun e => hne (by rw [e]; rfl))]
    · cases hv
  · cases hv
/-- A new block. -/
theorem sNew {d t : Nat} (k : Nat) {f : Nat → Value} {cs : Array Value} (hF : Fr n F a) (hM : Mem B w0 L w) (hg : wantF ops F o = some true) (hd : o.dst = some d) (hn : d < n) (hk : known F o = true)
    (hr : ∀ w, (execOp (evF F) o).run P w = .ok (.value (f w.heap.size)) (w.alloc (.cells cs t)))
    (kk : ∀ b a' w', Fr n ((d, some (f b)) :: F) a' → Mem B w0 ((k, some (.row b t cs)) :: L) w' → K a' w') : One P ops Q o K a w :=
  sW hF hg hd hn hk (hr w) fun a' h => kk _ a' _ h (hM.alloc k t cs)
/-- A call of a function that makes nothing but new memory and hands back a known value. -/
theorem yld_call {f : FuncId} {args : Array Value} (hF : Fr n F a) (hk : known F o = true) (hr : ∀ w, (execOp (evF F) o).run P w = .ok (.enter f args) w)
    (hc : ∀ w, Mem B w0 L w → Calls P f args w (Ret w v)) : Yld P o a (Mem B w0 L) v := by
  intro w hM
  unfold Oper.quietAt
  rw [hF.exec hk, hr w]
  exact ⟨rfl, (hc w hM).mono fun e w' ⟨he, hb⟩ => ⟨he, hM.below hb⟩⟩
/-- One operation that yields a value in all worlds with this memory. -/
theorem sM {d : Nat} (hF : Fr n F a) (hM : Mem B w0 L w) (hg : wantF ops F o = some true) (hd : o.dst = some d) (hn : d < n) (hy : Yld P o a (Mem B w0 L) v)
    (k : ∀ a' w', Fr n ((d, some v) :: F) a' → Mem B w0 L w' → K a' w') : One P ops Q o K a w := sL (C := Mem B w0 L) hF hM hg hd hn hy k
/-- A region that draws its order, all of whose operations read only, or call. -/
theorem rQ {id : Nat} {l : List Oper} (hM : Mem B w0 L w) (hm : P.follows .mixedOrders = true) (hB : Region.lexB .any l.toArray = true)
    (h : wpQuiet P l.toArray (Mem B w0 L) (fun a' => ∀ w', Mem B w0 L w' → Q .normal a' w') l a) : (Code.region id l.toArray true).wp P Q a w :=
  wp_region_quiet (C := Mem B w0 L) hm hB hM.drew (by simpa using h)
theorem least_of {p : Nat → Prop} : ∀ k, p k → ∃ m, p m ∧ ∀ j, p j → m ≤ j := fun k => by
  induction k using Nat.strongRecOn with
  | _ k ih =>
    intro hk
    by_cases h : ∃ j, j < k ∧ p j
    · obtain ⟨j, hj, hp⟩ := h
      exact ih j hj hp
    · exact ⟨k, hk, fun j hp => Nat.le_of_not_lt fun hlt => h ⟨j, hlt, hp⟩⟩
open Classical in
/-- A loop, with what holds at its head told by a number (or any data) g that is not in the frame. -/
theorem wp_loop_g {G : Type} {c : Code} (I : G → Act → World → Prop) (μ : G → Nat) (g0 : G) (h0 : I g0 a w)
    (round : ∀ g a w, I g a w → c.wp P (Exit.then (fun a' w' => ∃ g', I g' a' w' ∧ μ g' < μ g) Q) a w) : (Code.loop c).wp P Q a w := by
  have hex : ∀ a w, (∃ g, I g a w) → ∃ m, (∃ g, I g a w ∧ μ g = m) ∧ ∀ j, (∃ g, I g a w ∧ μ g = j) → m ≤ j := fun a w ⟨g, hg⟩ => least_of (μ g) ⟨g, hg, rfl⟩
  refine wp_loop (fun a w => ∃ g, I g a w) (fun a w => if h : ∃ g, I g a w then (hex a w h).choose else 0) ⟨g0, h0⟩ fun a w hI => ?_
  have hs := (hex a w hI).choose_spec
  obtain ⟨⟨g, hg, hm⟩, _⟩ := hs
  refine wp_mono (round g a w hg) fun e a' w' hq => ?_
  cases e with
  | normal =>
    obtain ⟨g', hg', hlt⟩ := hq
    refine ⟨⟨g', hg'⟩, ?_⟩
    have hI' : ∃ g, I g a' w' := ⟨g', hg'⟩
    have hle := (hex a' w' hI').choose_spec.2 _ ⟨g', hg', rfl⟩
    simp only [dif_pos hI, dif_pos hI']
    omega
  | exit id => exact hq
  | goto l => exact hq
  | ret => exact hq
  | panic ch => exact hq
  | outgrown => exact hq
theorem wp_loop_k {G : Type} {c : Code} (I : G → Act → World → Prop) (μ : G → Nat) (g0 : G) (h0 : I g0 a w)
    (round : ∀ g a w, I g a w → ∀ K : Act → World → Prop, (∀ a' w', (∃ g', I g' a' w' ∧ μ g' < μ g) → K a' w') → c.wp P (Exit.then K Q) a w) : (Code.loop c).wp P Q a w :=
  wp_loop_g I μ g0 h0 fun g a w hI => round g a w hI _ fun _ _ h => h
end

/-- Operation j of a region waits for operation k. -/
def edge (l : List Oper) (j k : Nat) : Bool := match l[j]? with
  | some o => o.after.toList.any fun e => Region.binds .any e && Nat.beq e.on k
  | none => false
/-- Edges lead back only. -/
def fwdB (l : List Oper) : Bool := l.zipIdx.all fun (o, i) => o.after.toList.all fun e => !Region.binds .any e || Nat.blt e.on i
/-- What has been carried out is closed under the edges. -/
def Closed (l : List Oper) (S : List Bool) : Prop := ∀ j k, edge l j k = true → S.getD j false = true → S.getD k false = true
theorem Closed.f {l : List Oper} {S : List Bool} (h : Closed l S) (j k : Nat) (he : edge l j k = true) (hk : S.getD k false = false) : S.getD j false = false := by
  cases hj : S.getD j false with
  | false => rfl
  | true => rw [h j k he hj] at hk; cases hk
def allB : Nat → (List Bool → Prop) → Prop
  | 0, p => p []
  | n + 1, p => ∀ b, allB n fun l => p (b :: l)
theorem allB_all : ∀ (n : Nat) (p : List Bool → Prop), allB n p → ∀ S, S.length = n → p S
  | 0, p, h, S, hS => by
    obtain rfl := List.length_eq_zero_iff.1 hS
    exact h
  | n + 1, p, h, [], hS => by simp at hS
  | n + 1, p, h, b :: S, hS => allB_all n _ (h b) S (by simpa using hS)
def StepAt (P : Program) (l : List Oper) (Q : Exit → Act → World → Prop) (St : List Bool → Act → World → Prop) (i : Nat) (o : Oper) : Prop :=
  allB l.length fun S => Closed l S → S.getD i false = false → (∀ j, edge l i j = true → S.getD j false = true) → ∀ a w, St S a w → One P l.toArray Q o (St (S.set i true)) a w
def StepsFrom (P : Program) (l : List Oper) (Q : Exit → Act → World → Prop) (St : List Bool → Act → World → Prop) : Nat → List Oper → Prop
  | _, [] => True
  | i, o :: r => StepAt P l Q St i o ∧ StepsFrom P l Q St (i + 1) r
section
variable {P : Program} {a : Act} {w : World} {Q : Exit → Act → World → Prop} {l : List Oper} {St : List Bool → Act → World → Prop}
theorem StepsFrom.at_ : ∀ (r : List Oper) (k : Nat), StepsFrom P l Q St k r → ∀ i o, r[i]? = some o → StepAt P l Q St (k + i) o
  | [], _, _, i, o, h => by simp at h
  | x :: r, k, hs, 0, o, h => by
    simp at h
    subst h
    exact hs.1
  | x :: r, k, hs, i + 1, o, h => by
    have := StepsFrom.at_ r (k + 1) hs.2 i o (by simpa using h)
    rwa [show k + (i + 1) = k + 1 + i by omega]
theorem stC {i : Nat} {o : Oper} {r : List Oper} (h : StepAt P l Q St i o) (k : StepsFrom P l Q St (i + 1) r) : StepsFrom P l Q St i (o :: r) := ⟨h, k⟩
theorem edge_iff {j k : Nat} {o : Oper} (hj : l[j]? = some o) : edge l j k = true ↔ ∃ e ∈ o.after, Region.binds .any e = true ∧ e.on = k := by
  simp only [edge, hj, List.any_eq_true, Bool.and_eq_true]
  constructor
  · rintro ⟨e, he, hb, hk⟩
    exact ⟨e, by simpa using he, hb, Nat.eq_of_beq_eq_true hk⟩
  · rintro ⟨e, he, hb, hk⟩
    exact ⟨e, by simpa using he, hb, by simp [hk]⟩
/-- A region that draws its order: what is known when a set of its operations has been carried out, and each operation by itself. -/
theorem rF {id : Nat} (hm : P.follows .mixedOrders = true) (hB : fwdB l = true) (St : List Bool → Act → World → Prop) (h0 : St (List.replicate l.length false) a { w with drawn := w.drawn + 1 })
    (steps : StepsFrom P l Q St 0 l) (fin : ∀ a w, St (List.replicate l.length true) a w → Q .normal a w) : (Code.region id l.toArray true).wp P Q a w := by
  refine wp_region_any hm ?_
  have hfwd : ∀ i o, l[i]? = some o → ∀ e ∈ o.after, Region.binds .any e = true → e.on < i := fun i o ho e he hb => by
    have h1 := List.all_eq_true.1 hB (o, i) (by rw [List.mem_iff_getElem?]; exact ⟨i, by simp [ho]⟩)
    have h2 := List.all_eq_true.1 h1 e (by simpa using he)
    simp only [hb, Bool.not_true, Bool.false_or] at h2
    exact Nat.le_of_ble_eq_true h2
  -- an operation that has not been carried out: the first such is ready
  have hready : ∀ listed : Array Bool, listed.size = l.length → (∃ i, i < l.length ∧ listed.toList.getD i false = false) → Region.ready .any l.toArray listed ≠ [] := fun listed hsz ⟨i, hi, hu⟩ hnil => by
    obtain ⟨m, ⟨hm1, hm2⟩, hmin⟩ := least_of (p := fun i => i < l.length ∧ listed.toList.getD i false = false) i ⟨hi, hu⟩
    obtain ⟨o, ho⟩ : ∃ o, l[m]? = some o := ⟨l[m], List.getElem?_eq_getElem hm1⟩
    have : m ∈ Region.ready .any l.toArray listed := by
      refine mem_ready.2 ⟨?_, o, by simpa using ho, fun e he hb => ?_⟩
      · have hlt : m < listed.size := by omega
        simp [hlt] at hm2 ⊢
        exact hm2
      · have hlt := hfwd m o ho e he hb
        cases hc : listed.getD e.on false with
        | true => rfl
        | false =>
          have := hmin e.on ⟨by omega, by simpa using hc⟩
          omega
    rw [hnil] at this
    cases this
  have key : ∀ (fuel : Nat) (listed : Array Bool) (a : Act) (w : World), listed.size = l.length → listed.toList.count false = fuel → Closed l listed.toList → St listed.toList a w →
      wpAny P .any l.toArray Q fuel listed a w := by
    have hall : ∀ listed : Array Bool, listed.size = l.length → Region.ready .any l.toArray listed = [] → listed.toList = List.replicate l.length true := fun listed hsz hnil => by
      refine List.eq_replicate_iff.2 ⟨by simpa using hsz, fun b hb => ?_⟩
      obtain ⟨i, hi⟩ := List.getElem?_of_mem hb
      cases b with
      | true => rfl
      | false =>
        refine absurd hnil (hready listed hsz ⟨i, ?_, by simp [List.getD, hi]⟩)
        have := (List.getElem?_eq_some_iff.1 hi).1
        simpa [hsz] using this
    intro fuel
    induction fuel with
    | zero =>
      intro listed a w hsz hcnt _ hst
      have hrep : listed.toList = List.replicate l.length true := by
        refine List.eq_replicate_iff.2 ⟨by simpa using hsz, fun b hb => ?_⟩
        cases b with
        | true => rfl
        | false =>
          have := List.count_pos_iff.2 hb
          omega
      refine ⟨?_, fin a w (hrep ▸ hst)⟩
      rcases hr : Region.ready .any l.toArray listed with _ | ⟨i, r⟩
      · rfl
      · exfalso
        have hi : i ∈ Region.ready .any l.toArray listed := by rw [hr]; simp
        obtain ⟨hun, o, ho, _⟩ := mem_ready.1 hi
        have hlt : i < l.length := by
          have := (Array.getElem?_eq_some_iff.1 ho).1
          simpa using this
        have : listed.toList.getD i false = true := by rw [hrep]; simp [hlt]
        have hlt' : i < listed.size := by omega
        simp [hlt'] at this hun
        rw [this] at hun
        cases hun
    | succ fuel ih =>
      intro listed a w hsz hcnt hcl hst
      refine ⟨fun hnil => fin a w (hall listed hsz hnil ▸ hst), fun i hi => ?_⟩
      obtain ⟨hun, o, ho, hpre⟩ := mem_ready.1 hi
      have ho' : l[i]? = some o := by simpa using ho
      have hlt : i < l.length := (List.getElem?_eq_some_iff.1 ho').1
      have hun' : listed.toList.getD i false = false := by
        have hlt' : i < listed.size := by omega
        simp [hlt'] at hun ⊢
        exact hun
      have hp : ∀ j, edge l i j = true → listed.toList.getD j false = true := fun j hj => by
        obtain ⟨e, he, hb, rfl⟩ := (edge_iff ho').1 hj
        have := hpre e he hb
        simpa using this
      have hstep := allB_all _ _ (StepsFrom.at_ l 0 steps i o ho') listed.toList (by simpa using hsz)
      rw [Nat.zero_add] at hstep
      have hone := hstep hcl hun' hp a w hst
      have hw : wpOp P l.toArray Q i (St (listed.toList.set i true)) a w := by
        unfold wpOp
        rw [show l.toArray[i]? = some o from ho]
        exact hone
      refine wpOp_mono (fun a' w' hs' => ?_) hw
      have hl : (listed.setIfInBounds i true).toList = listed.toList.set i true := by simp
      refine ih _ a' w' (by simpa using hsz) ?_ ?_ (by rw [hl]; exact hs')
      · rw [hl, List.count_set (by simpa [hsz] using hlt)]
        have hf : (listed.toList[i]'(by simpa [hsz] using hlt) == false) = true := by
          have hlt' : i < listed.size := by omega
          simp [hlt'] at hun'
          simp [hun']
        rw [hcnt, if_pos hf, if_neg (by decide)]
        omega
      · rw [hl]
        intro j k hjk hj
        by_cases e1 : i = j
        · subst e1
          have hk := hp k hjk
          by_cases e2 : i = k
          · subst e2
            rw [hun'] at hk
            cases hk
          · simpa [List.getD, List.getElem?_set, e2] using hk
        · have hj' : listed.toList.getD j false = true := by simpa [List.getD, List.getElem?_set, e1] using hj
          have hk := hcl j k hjk hj'
          by_cases e2 : i = k
          · subst e2
            rw [hun'] at hk
            cases hk
          · simpa [List.getD, List.getElem?_set, e2] using hk
  refine key l.length _ a _ (by simp) (by simp) (fun j k hjk hj => ?_) (by simpa using h0)
  simp [List.getD, List.getElem?_replicate] at hj
  split at hj <;> simp at hj
end

def argF : Nat → List Value → List (Nat × Option Value)
  | _, [] => []
  | i, v :: r => (i, some v) :: argF (i + 1) r
theorem argF_look : ∀ (l : List Value) (i j : Nat) (v : Value), look j (argF i l) = some v → i ≤ j ∧ l[j - i]? = some v
  | [], _, _, _, h => by simp [argF, look] at h
  | u :: r, i, j, v, h => by
    by_cases e : i = j
    · subst e
      rw [argF, look_self] at h
      simpa using h
    · rw [argF, look_other e] at h
      obtain ⟨h1, h2⟩ := argF_look r (i + 1) j v h
      refine ⟨by omega, ?_⟩
      rw [show j - i = (j - (i + 1)) + 1 by omega]
      simpa using h2
/-- Entering a function: its arguments lie in its first slots. -/
theorem enter {P : Program} {f : FuncId} {fn : Func} {c : Code} {args : Array Value} {w : World} {R : Ending → World → Prop} {n : Nat} (hf : P.funcs[f]? = some fn) (hb : fn.body = some c) (hn : fn.ntmps = n) (hle : args.size ≤ n)
    (k : ∀ a, Fr n (argF 0 args.toList) a → c.wp P (bodyPost P fn R) a w) : Calls P f args w R := by
  refine calls_of_wp hf hb (k _ ⟨?_, rfl, fun i v hv => ?_⟩)
  · simp
    omega
  · obtain ⟨_, h2⟩ := argF_look _ _ _ _ hv
    rw [Nat.sub_zero] at h2
    have hlt : i < args.size := by
      have := (List.getElem?_eq_some_iff.1 h2).1
      simpa using this
    simp only [Array.getElem?_append, if_pos hlt]
    simpa using h2
theorem enterK {P : Program} {f : FuncId} {fn : Func} {c : Code} {args : Array Value} {w : World} {R : Ending → World → Prop} (n : Nat) (hf : P.funcs[f]? = some fn) (hb : fn.body = some c) (hn : fn.ntmps = n) (hle : Nat.ble args.size n = true)
    (k : ∀ a, Fr n (argF 0 args.toList) a → ∀ Q : Exit → Act → World → Prop, (∀ a w, bodyPost P fn R .ret a w → Q .ret a w) → (∀ a w, bodyPost P fn R .normal a w → Q .normal a w) → c.wp P Q a w) : Calls P f args w R :=
  enter hf hb hn (Nat.le_of_ble_eq_true hle) fun a ha => k a ha _ (fun _ _ h => h) (fun _ _ h => h)
/-- The results of a function, by the known slots and rows. -/
inductive Res (P : Program) (F : List (Nat × Option Value)) (L : List (Nat × Option Ent)) : List ResultVar → List Value → Prop where
  | nil : Res P F L [] []
  | tmp {t : Nat} {v : Value} {r : List ResultVar} {vs : List Value} (h : look t F = some v) (k : Res P F L r vs) : Res P F L (.tmp t :: r) (v :: vs)
  | cell {p ty t b off i : Nat} {cs : Array Value} {v : Value} {r : List ResultVar} {vs : List Value} (h : look p F = some (.pointer (some ⟨b, off, none⟩))) (hi : look i L = some (.row b t cs)) (hv : rdRow P ty cs.toList off = some v) (k : Res P F L r vs) :
      Res P F L (.cell p ty :: r) (v :: vs)
def pack : List Value → Value
  | [v] => v
  | vs => .tuple vs.toArray
theorem run_res {P : Program} {F : List (Nat × Option Value)} {L : List (Nat × Option Ent)} {n B : Nat} {a : Act} {w w0 : World} (hF : Fr n F a) (hM : Mem B w0 L w) (g : ResultVar → Sem Value) (g1 : ∀ t, g (.tmp t) = pure (a.tmps.getD t undef)) (g2 : ∀ p t, g (.cell p t) = (do loadVar t (← asAddr (a.tmps.getD p undef))))
    {rs : List ResultVar} {vs : List Value} (h : Res P F L rs vs) : (rs.mapM (m := Sem) g).run P w = .ok vs w := by
  induction h with
  | nil => simp
  | tmp h k ih =>
    rw [List.mapM_cons]
    simp only [Sem.run_bind, g1, hF.getD h, Sem.run_pure, Result.andThen_ok, ih]
  | @cell p ty t b off i cs v r vs h hi hv k ih =>
    rw [List.mapM_cons]
    have hr := run_loadVar (P := P) (w := w) hv fun j u hu => by
      rw [(hM.ok _ _ hi).1.cell j]
      simpa using hu
    have ha : asAddr (.pointer (some ⟨b, off, none⟩)) = pure ⟨b, off, none⟩ := rfl
    simp only [Sem.run_bind, g2, hF.getD h, ha, Sem.run_pure, Result.andThen_ok, hr, ih]
theorem ret_of {P : Program} {fn : Func} {F : List (Nat × Option Value)} {L : List (Nat × Option Ent)} {n B : Nat} {a : Act} {w w0 : World} {R : Ending → World → Prop} {vs : List Value} (hF : Fr n F a) (hM : Mem B w0 L w) (h : Res P F L fn.results.toList vs) (hR : R (.returned (pack vs)) w) : bodyPost P fn R .ret a w := by
  refine ⟨hF.df, pack vs, ?_, hR⟩
  have hr := fun g g1 g2 => run_res (P := P) hF hM g g1 g2 h
  unfold results
  rw [Sem.run_bind, Array.mapM_eq_mapM_toList, map_eq_pure_bind, Sem.run_bind, hr _ (fun _ => rfl) (fun _ _ => rfl)]
  simp only [Result.andThen_ok, Sem.run_pure]
  match vs with
  | [] => simp [pack]
  | [v] => simp [pack]
  | v :: u :: r => simp [pack]
theorem ret_ofN {P : Program} {fn : Func} {F : List (Nat × Option Value)} {L : List (Nat × Option Ent)} {n B : Nat} {a : Act} {w w0 : World} {R : Ending → World → Prop} {vs : List Value} (hF : Fr n F a) (hM : Mem B w0 L w) (h : Res P F L fn.results.toList vs) (hR : R (.returned (pack vs)) w) : bodyPost P fn R .normal a w := ret_of hF hM h hR

theorem mul_le_of {a b la ha m : Int} (h1 : la ≤ a) (h2 : a ≤ ha) (c1 : la * b ≤ m) (c2 : ha * b ≤ m) : a * b ≤ m := by
  rcases Int.le_total 0 b with hb | hb
  · exact Int.le_trans (Int.mul_le_mul_of_nonneg_right h2 hb) c2
  · exact Int.le_trans (Int.mul_le_mul_of_nonpos_right h1 hb) c1
theorem le_mul_of {a b la ha m : Int} (h1 : la ≤ a) (h2 : a ≤ ha) (c1 : m ≤ la * b) (c2 : m ≤ ha * b) : m ≤ a * b := by
  rcases Int.le_total 0 b with hb | hb
  · exact Int.le_trans c1 (Int.mul_le_mul_of_nonneg_right h1 hb)
  · exact Int.le_trans c2 (Int.mul_le_mul_of_nonpos_right h2 hb)
/-- A product lies between the products of the bounds. -/
theorem mul_bd {a b lo hi : Int} (la ha lb hb : Int) (h1 : la ≤ a) (h2 : a ≤ ha) (h3 : lb ≤ b) (h4 : b ≤ hb) (hc : (lo ≤ la * lb ∧ lo ≤ la * hb ∧ lo ≤ ha * lb ∧ lo ≤ ha * hb) ∧ la * lb ≤ hi ∧ la * hb ≤ hi ∧ ha * lb ≤ hi ∧ ha * hb ≤ hi) : lo ≤ a * b ∧ a * b ≤ hi := by
  obtain ⟨⟨c1, c2, c3, c4⟩, d1, d2, d3, d4⟩ := hc
  have f : ∀ x y : Int, x * y = y * x := Int.mul_comm
  constructor
  · refine le_mul_of h1 h2 ?_ ?_
    · rw [f]; exact le_mul_of h3 h4 (by rw [f]; exact c1) (by rw [f]; exact c2)
    · rw [f]; exact le_mul_of h3 h4 (by rw [f]; exact c3) (by rw [f]; exact c4)
  · refine mul_le_of h1 h2 ?_ ?_
    · rw [f]; exact mul_le_of h3 h4 (by rw [f]; exact d1) (by rw [f]; exact d2)
    · rw [f]; exact mul_le_of h3 h4 (by rw [f]; exact d3) (by rw [f]; exact d4)
theorem min_if (x y : Int) : (if y < x then y else x) = min x y := by omega
theorem max_if (x y : Int) : (if y > x then y else x) = max x y := by omega
theorem ret_eq {u v : Value} (h : u = v) : Ending.returned u = .returned v := by rw [h]
theorem Mem.here {B : Nat} {w0 w w1 : World} {L : List (Nat × Option Ent)} (h : Mem B w0 L w1) (e : w = w1) : Mem B w0 L w := e ▸ h
theorem bT {p : Prop} {_ : Decidable p} (h : p) : Value.bool (decide p) = .bool true := by rw [decide_eq_true h]
theorem bF {p : Prop} {_ : Decidable p} (h : ¬ p) : Value.bool (decide p) = .bool false := by rw [decide_eq_false h]
theorem nT {p : Prop} {_ : Decidable p} (h : p) : Value.bool (!decide p) = .bool false := by rw [decide_eq_true h]; rfl
theorem nF {p : Prop} {_ : Decidable p} (h : ¬ p) : Value.bool (!decide p) = .bool true := by rw [decide_eq_false h]; rfl
theorem w64 {e : Int} (h : -9223372036854775808 ≤ e ∧ e ≤ 9223372036854775807) : IntKind.i64.wrap e = e := IntWalk.i64_in e h
theorem wi {e : Int} (h : -9223372036854775808 ≤ e ∧ e ≤ 9223372036854775807) : Value.int .i64 (IntKind.i64.wrap e) = .int .i64 e := by rw [w64 h]
theorem vi {k : IntKind} {x y : Int} (h : x = y) : Value.int k x = .int k y := by rw [h]

/-- An address j cells behind a slice's first. -/
def gA (A : Option Addr) : Addr := A.getD ⟨0, 0, none⟩
def ea (A : Option Addr) (j : Nat) : Addr := ⟨(gA A).block, (gA A).off + j, none⟩
def nt (l : List Int) (k : Nat) : Int := l.getD k 0
def pr (l : List (Int × Int)) (k : Nat) : Int × Int := l.getD k (0, 0)
theorem nt_at {kd : IntKind} {l : List Int} {j : Nat} (h : j < l.length) : (l.map (Value.int kd))[j]? = some (.int kd (nt l j)) := by
  simp [nt, List.getD, List.getElem?_eq_getElem h]
theorem nt_some {l : List Int} {j : Nat} (h : j < l.length) : l[j]? = some (nt l j) := by simp [nt, List.getD, List.getElem?_eq_getElem h]
theorem pr_some {l : List (Int × Int)} {j : Nat} (h : j < l.length) : l[j]? = some (pr l j) := by simp [pr, List.getD, List.getElem?_eq_getElem h]
theorem pr_fst {l : List (Int × Int)} {k j : Nat} (h : k < l.length) (e : j = k * 2) : (flat2 l)[j]? = some (.int .i64 (pr l k).1) := by subst e; exact (flat2_at l k _ (pr_some h)).1
theorem pr_snd {l : List (Int × Int)} {k j : Nat} (h : k < l.length) (e : j = k * 2 + 1) : (flat2 l)[j]? = some (.int .i64 (pr l k).2) := by subst e; exact (flat2_at l k _ (pr_some h)).2
theorem pr_both {l : List (Int × Int)} {k j : Nat} (h : k < l.length) (e : j = k * 2) : ∀ i u, [Value.int .i64 (pr l k).1, .int .i64 (pr l k).2][i]? = some u → (flat2 l)[j + i]? = some u := by
  subst e
  intro i u hu
  match i with
  | 0 => simp at hu; subst hu; exact pr_fst h rfl
  | 1 => simp at hu; subst hu; exact pr_snd h rfl
  | i + 2 => simp at hu
theorem u64_wrap (x : Int) : IntKind.u64.wrap x = x % 18446744073709551616 := by simp [IntKind.wrap, IntKind.bits, IntKind.signed]
theorem u32_wrap (x : Int) : IntKind.u32.wrap x = x % 4294967296 := by simp [IntKind.wrap, IntKind.bits, IntKind.signed]
theorem u16_wrap (x : Int) : IntKind.u16.wrap x = x % 65536 := by simp [IntKind.wrap, IntKind.bits, IntKind.signed]
theorem u8_wrap (x : Int) : IntKind.u8.wrap x = x % 256 := by simp [IntKind.wrap, IntKind.bits, IntKind.signed]
theorem ediv_le_self_of {p q : Int} (h0 : 0 ≤ p) (h1 : 0 < q) : 0 ≤ p / q ∧ p / q ≤ p := ⟨Int.ediv_nonneg h0 (by omega), Int.ediv_le_self _ h0⟩
theorem emod_bd {p q : Int} (_h0 : 0 ≤ p) (h1 : 0 < q) : 0 ≤ p % q ∧ p % q < q := ⟨Int.emod_nonneg _ (by omega), Int.emod_lt_of_pos _ h1⟩
theorem qpos_i64 {p q : Int} (h0 : 0 ≤ p) (h1 : 0 < q) (h2 : p ≤ 9223372036854775807) : IntKind.i64.wrap (p.tdiv q) = p / q := by
  have := ediv_le_self_of h0 h1
  rw [Int.tdiv_eq_ediv_of_nonneg h0, w64 (by omega)]
theorem qpos_u64 {p q : Int} (h0 : 0 ≤ p) (h1 : 0 < q) (h2 : p ≤ 18446744073709551615) : IntKind.u64.wrap (p.tdiv q) = p / q := by
  have := ediv_le_self_of h0 h1
  rw [Int.tdiv_eq_ediv_of_nonneg h0, u64_wrap, Int.emod_eq_of_lt (by omega) (by omega)]
theorem qpos_u32 {p q : Int} (h0 : 0 ≤ p) (h1 : 0 < q) (h2 : p ≤ 4294967295) : IntKind.u32.wrap (p.tdiv q) = p / q := by
  have := ediv_le_self_of h0 h1
  rw [Int.tdiv_eq_ediv_of_nonneg h0, u32_wrap, Int.emod_eq_of_lt (by omega) (by omega)]
theorem tdiv_le_abs {p q : Int} : -(p.natAbs : Int) ≤ p.tdiv q ∧ p.tdiv q ≤ p.natAbs := by
  have h : (p.tdiv q).natAbs ≤ p.natAbs := by rw [Int.natAbs_tdiv]; exact Nat.div_le_self _ _
  omega
theorem qany {p q : Int} (h1 : -9223372036854775807 ≤ p) (h2 : p ≤ 9223372036854775807) : IntKind.i64.wrap (p.tdiv q) = p.tdiv q := by
  have := @tdiv_le_abs p q
  exact w64 (by omega)
section
variable {P : Program} {n : Nat} {F : List (Nat × Option Value)} {a : Act} {o : Oper} {v : Value} {w w0 : World} {C : World → Prop} {B : Nat} {L : List (Nat × Option Ent)}
theorem yld_quo {t t' : TypeId} {x y : Operand} {kd : IntKind} {r : Int} (p q : Int) (hF : Fr n F a) (ho : o.op = .binOp .quo t x y t') (hk : known F o = true) (hx : evF F x = .int kd p) (hy : evF F y = .int kd q) (hq : q ≠ 0) (hr : kd.wrap (p.tdiv q) = r) : Yld P o a C (.int kd r) := by
  intro w _
  unfold Oper.quietAt
  rw [hF.exec hk]
  simp [execOp, ho, hx, hy, eqGuard, binOp, Op.intDiv, hq, hr, Oper.quietUpon]
theorem yld_rem {t t' : TypeId} {x y : Operand} {kd : IntKind} {r : Int} (p q : Int) (hF : Fr n F a) (ho : o.op = .binOp .rem t x y t') (hk : known F o = true) (hx : evF F x = .int kd p) (hy : evF F y = .int kd q) (hq : q ≠ 0) (hr : p.tmod q = r) : Yld P o a C (.int kd r) := by
  intro w _
  unfold Oper.quietAt
  rw [hF.exec hk]
  simp [execOp, ho, hx, hy, eqGuard, binOp, Op.intDiv, hq, hr, Oper.quietUpon]
theorem Ro.at_ {A : Option Addr} {xs : List Value} (h : Ro w A xs) {j : Nat} {u : Value} (hu : xs[j]? = some u) : A = some ⟨(gA A).block, (gA A).off, none⟩ ∧ w.cell? (ea A j) = some u := by
  obtain ⟨b, off, e, hc⟩ := h j u hu
  subst e
  exact ⟨rfl, hc⟩
/-- The address of an element of a slice that can be read. -/
theorem yld_ix {t e len cap size j : Nat} {x ix : Operand} {kd : IntKind} {i : Int} {A : Option Addr} {xs : List Value} (hF : Fr n F a) (ho : o.op = .indexAddr t x ix) (hk : known F o = true) (hx : evF F x = .slice A len cap) (hix : evF F ix = .int kd i)
    (hu : P.underlying t = some (.slice e)) (hs : (P.info? e).map (·.size) = some size) (hro : ∀ w, Mem B w0 L w → Ro w A xs) (h01 : 0 ≤ i ∧ i < len) (hj : i.toNat * size = j) (hl : j < xs.length) :
    Yld P o a (Mem B w0 L) (.pointer (some (ea A j))) := by
  intro w hM
  unfold Oper.quietAt
  rw [hF.exec hk]
  have hr : Ro w A xs := hro w hM
  obtain ⟨hA, _⟩ := hr.at_ (List.getElem?_eq_getElem hl)
  cases hq : P.info? e with
  | none => simp [hq] at hs
  | some q =>
    have hz : q.size = size := by simpa [hq] using hs
    have hadd := add_at (gA A).block (gA A).off j
    simp only [execOp, ho, hx, hix, Instr.indexAt, asIntOf, Sem.run_bind, run_underlying hu, Sem.run_pure, Result.andThen_ok]
    rw [hA]
    simp [h01, sizeOf, typeInfo, hq, hz, hj, Oper.quietUpon, ea, gA]
    exact hadd
theorem yld_ro1 {ty j : Nat} {x : Operand} {A : Option Addr} {xs : List Value} (hF : Fr n F a) (ho : o.op = .load ty x) (hk : known F o = true) (hx : evF F x = .pointer (some (ea A j))) (hro : ∀ w, Mem B w0 L w → Ro w A xs) (ha : aggSize P ty = some none) (hv : xs[j]? = some v) :
    Yld P o a (Mem B w0 L) v := by
  intro w hM
  unfold Oper.quietAt
  rw [hF.exec hk]
  have hr : Ro w A xs := hro w hM
  obtain ⟨_, hc⟩ := hr.at_ hv
  obtain ⟨d, hd, hagg⟩ := aggSize_none ha
  have hag : (isAgg ty).run P w = .ok false w := isAgg_false hd hagg
  simp [execOp, ho, hx, Instr.loadAt, Instr.sureAddr, loadVar, Sem.run_bind, hag, load, Sem.run, hc, Oper.quietUpon]
theorem yld_roM {ty j m : Nat} {x : Operand} {A : Option Addr} {xs us : List Value} (hF : Fr n F a) (ho : o.op = .load ty x) (hk : known F o = true) (hx : evF F x = .pointer (some (ea A j))) (hro : ∀ w, Mem B w0 L w → Ro w A xs) (ha : aggSize P ty = some (some m)) (hm : us.length = m) (hv : ∀ i u, us[i]? = some u → xs[j + i]? = some u) :
    Yld P o a (Mem B w0 L) (.agg us.toArray) := by
  intro w hM
  unfold Oper.quietAt
  rw [hF.exec hk]
  have hr : Ro w A xs := hro w hM
  obtain ⟨d, q, hd, hagg, hq, hz⟩ := aggSize_some ha
  have hl := run_loadCells_list (P := P) (w := w) (ea A j) us fun i u hu => by
    have := (hr.at_ (hv i u hu)).2
    rw [ea, add_at, Nat.add_assoc]
    exact this
  rw [hm] at hl
  have hag : (isAgg ty).run P w = .ok true w := isAgg_true hd hagg
  simp [execOp, ho, hx, Instr.loadAt, Instr.sureAddr, loadVar, Sem.run_bind, hag, sizeOf, typeInfo, hq, hz, hl, Oper.quietUpon]
end
theorem Mem.roRow {B : Nat} {w0 w : World} {L : List (Nat × Option Ent)} {k b : Nat} {t : TypeId} {cs : Array Value} (h : Mem B w0 L w) (hk : look k L = some (.row b t cs)) : Ro w (some ⟨b, 0, none⟩) cs.toList := fun j u hu => by
  refine ⟨b, 0, rfl, ?_⟩
  rw [(h.ok _ _ hk).1.cell]
  simpa using hu
theorem Ro.of_arr1 {kd : IntKind} {w : World} {B : Nat} {A : Option Addr} {l : List Int} (h : Arr1 kd w B A l) : Ro w A (l.map (Value.int kd)) := fun j u hu => by
  simp only [List.getElem?_map, Option.map_eq_some_iff] at hu
  obtain ⟨x, hx, rfl⟩ := hu
  obtain ⟨b, off, e, _, hc⟩ := h j x hx
  exact ⟨b, off, e, hc⟩
theorem Ro.arr1 {kd : IntKind} {w : World} {A : Option Addr} {l : List Int} (h : Ro w A (l.map (Value.int kd))) : Arr1 kd w w.heap.size A l := fun j x hx => by
  obtain ⟨b, off, e, hc⟩ := h j (.int kd x) (by simp [hx])
  exact ⟨b, off, e, cell_lt hc, hc⟩
theorem Ro.arr2 {w : World} {A : Option Addr} {l : List (Int × Int)} (h : Ro w A (flat2 l)) : Arr2 w w.heap.size A l := fun j x hx => by
  obtain ⟨h1, h2⟩ := flat2_at l j x hx
  obtain ⟨b, off, e, hc⟩ := h _ _ h1
  obtain ⟨b', off', e', hc'⟩ := h _ _ h2
  have := e.symm.trans e'
  injection this with this
  injection this with e1 e2
  subst e1 e2
  exact ⟨b, off, e, cell_lt hc, hc, by simpa [Nat.add_assoc] using hc'⟩
theorem flat2_get {m : List (Int × Int)} : ∀ {j : Nat} {u : Value}, (flat2 m)[j]? = some u → ∃ x, m[j / 2]? = some x ∧ ((j % 2 = 0 ∧ u = .int .i64 x.1) ∨ (j % 2 = 1 ∧ u = .int .i64 x.2)) := by
  intro j u hu
  have hlt : j < (flat2 m).length := (List.getElem?_eq_some_iff.1 hu).1
  rw [flat2_length] at hlt
  obtain ⟨x, hx⟩ : ∃ x, m[j / 2]? = some x := ⟨m[j / 2]'(by omega), List.getElem?_eq_getElem (by omega)⟩
  obtain ⟨h1, h2⟩ := flat2_at m _ x hx
  refine ⟨x, hx, ?_⟩
  rcases Nat.mod_two_eq_zero_or_one j with h | h
  · left
    rw [show j / 2 * 2 = j by omega, hu] at h1
    injection h1 with h1
    exact ⟨h, h1⟩
  · right
    rw [show j / 2 * 2 + 1 = j by omega, hu] at h2
    injection h2 with h2
    exact ⟨h, h2⟩
theorem Ro.of_arr2 {w : World} {B : Nat} {A : Option Addr} {l : List (Int × Int)} (h : Arr2 w B A l) : Ro w A (flat2 l) := fun j u hu => by
  obtain ⟨x, hx, ⟨hm, rfl⟩ | ⟨hm, rfl⟩⟩ := flat2_get hu
  · obtain ⟨b, off, e, _, hc, _⟩ := h _ _ hx
    exact ⟨b, off, e, by rw [show off + j = off + j / 2 * 2 by omega]; exact hc⟩
  · obtain ⟨b, off, e, _, _, hc⟩ := h _ _ hx
    exact ⟨b, off, e, by rw [show off + j = off + j / 2 * 2 + 1 by omega]; exact hc⟩

/-- Fields from cell i on, each an integer. -/
def flatB (P : Program) : Nat → List Field → Bool
  | _, [] => true
  | i, f :: r => Nat.beq f.offset i && (f.name != "_") && (match P.underlying f.type with | some (.int _) => true | _ => false) && flatB P (i + 1) r
theorem run_eqFields {P : Program} {w : World} {d : Nat} {X Y : Array Value} : ∀ (fs : List Field) (i : Nat) (ps qs : List Int), flatB P i fs = true → ps.length = fs.length → qs.length = fs.length →
    (∀ j p, ps[j]? = some p → X[i + j]? = some (.int .i64 p)) → (∀ j p, qs[j]? = some p → Y[i + j]? = some (.int .i64 p)) → (Op.eqFields (d + 1) X Y fs).run P w = .ok (decide (ps = qs)) w
  | [], i, ps, qs, _, h1, h2, _, _ => by
    obtain rfl := List.length_eq_zero_iff.1 h1
    obtain rfl := List.length_eq_zero_iff.1 h2
    simp [Op.eqFields]
  | f :: r, i, [], qs, _, h1, _, _, _ => by simp at h1
  | f :: r, i, _ :: _, [], _, _, h2, _, _ => by simp at h2
  | f :: r, i, x :: ps, y :: qs, hf, h1, h2, hX, hY => by
    simp only [flatB, Bool.and_eq_true, bne_iff_ne] at hf
    obtain ⟨⟨⟨ho, hn⟩, ht⟩, hr⟩ := hf
    have ho' := Nat.eq_of_beq_eq_true ho
    obtain ⟨k, hk⟩ : ∃ k, P.underlying f.type = some (.int k) := by
      split at ht
      · exact ⟨_, ‹_›⟩
      · cases ht
    have hX0 := hX 0 x rfl
    have hY0 := hY 0 y rfl
    rw [Nat.add_zero] at hX0 hY0
    have hag : (isAgg f.type).run P w = .ok false w := isAgg_false hk rfl
    have hpx : (part f.type X f.offset).run P w = .ok (.int .i64 x) w := by simp [part, Sem.run_bind, hag, ho', hX0]
    have hpy : (part f.type Y f.offset).run P w = .ok (.int .i64 y) w := by simp [part, Sem.run_bind, hag, ho', hY0]
    have ih := run_eqFields (P := P) (w := w) (d := d) (X := X) (Y := Y) r (i + 1) ps qs hr (by simpa using h1) (by simpa using h2)
      (fun j p hp => by rw [show i + 1 + j = i + (j + 1) by omega]; exact hX (j + 1) p (by simpa using hp))
      (fun j p hp => by rw [show i + 1 + j = i + (j + 1) by omega]; exact hY (j + 1) p (by simpa using hp))
    simp only [Op.eqFields, if_pos hn, Sem.run_bind, hpx, hpy, Result.andThen_ok, run_equalIn_int w d f.type .i64 k x y hk]
    by_cases e : x = y
    · subst e
      simp [ih]
    · simp [e]
section
variable {P : Program} {n : Nat} {F : List (Nat × Option Value)} {a : Act} {o : Oper} {C : World → Prop}
theorem run_eqStruct {w : World} {t : TypeId} {ps qs : List Int} {fs : Array Field} (hu : P.underlying t = some (.struct fs)) (hp : P.stoodInHeld t = false) (hb : flatB P 0 fs.toList = true) (h1 : ps.length = fs.toList.length) (h2 : qs.length = fs.toList.length) :
    (Op.equalIn 10000 t (.agg (ps.map (Value.int .i64)).toArray) (.agg (qs.map (Value.int .i64)).toArray)).run P w = .ok (decide (ps = qs)) w := by
  have hfs : P.fieldsOf t = fs := by simp [Program.fieldsOf, hu]
  rw [run_equalIn_struct w 9999 t _ _ (by rw [hfs]; exact hu) hp, hfs]
  exact run_eqFields fs.toList 0 ps qs hb h1 h2 (fun j p hp => by simp [hp]) (fun j p hp => by simp [hp])
theorem yld_eql {t t' : TypeId} {x y : Operand} {fs : Array Field} (ps qs : List Int) (hF : Fr n F a) (ho : o.op = .binOp .eql t x y t') (hk : known F o = true) (hx : evF F x = .agg (ps.map (Value.int .i64)).toArray) (hy : evF F y = .agg (qs.map (Value.int .i64)).toArray)
    (hu : P.underlying t = some (.struct fs)) (hp : P.stoodInHeld t = false) (hg : P.eqGuardType P.depth t = false) (hb : flatB P 0 fs.toList = true) (h1 : ps.length = fs.toList.length) (h2 : qs.length = fs.toList.length) : Yld P o a C (.bool (decide (ps = qs))) := by
  intro w _
  unfold Oper.quietAt
  rw [hF.exec hk]
  simp [execOp, ho, hx, hy, run_eqGuard_agg w _ _ _ _ _ _ hg, run_eql_struct, run_eqStruct hu hp hb h1 h2, Oper.quietUpon]
theorem yld_neq {t t' : TypeId} {x y : Operand} {fs : Array Field} (ps qs : List Int) (hF : Fr n F a) (ho : o.op = .binOp .neq t x y t') (hk : known F o = true) (hx : evF F x = .agg (ps.map (Value.int .i64)).toArray) (hy : evF F y = .agg (qs.map (Value.int .i64)).toArray)
    (hu : P.underlying t = some (.struct fs)) (hp : P.stoodInHeld t = false) (hg : P.eqGuardType P.depth t = false) (hb : flatB P 0 fs.toList = true) (h1 : ps.length = fs.toList.length) (h2 : qs.length = fs.toList.length) : Yld P o a C (.bool (!decide (ps = qs))) := by
  intro w _
  unfold Oper.quietAt
  rw [hF.exec hk]
  simp [execOp, ho, hx, hy, run_eqGuard_agg w _ _ _ _ _ _ hg, run_neq_struct, run_eqStruct hu hp hb h1 h2, Oper.quietUpon]
theorem Yld.to {v v' : Value} (h : Yld P o a C v) (e : v = v') : Yld P o a C v' := e ▸ h
end

/-- For the lists of a region that draws its order: one entry anew, in its place. -/
def keyAt {α : Type} : Nat → Nat → List (Nat × Option α) → Bool
  | _, _, [] => false
  | 0, d, (j, _) :: _ => Nat.beq j d
  | p + 1, d, (j, _) :: r => !Nat.beq j d && keyAt p d r
theorem look_set {α : Type} {c : Option α} {d i : Nat} : ∀ (F : List (Nat × Option α)) (p : Nat), keyAt p d F = true → look i (F.set p (d, c)) = look i ((d, c) :: F)
  | [], p, h => by cases p <;> simp [keyAt] at h
  | (j, u) :: r, 0, h => by
    have e : j = d := Nat.eq_of_beq_eq_true h
    subst e
    by_cases eq : j = i
    · subst eq
      simp [look_self]
    · simp [look_other eq]
  | (j, u) :: r, p + 1, h => by
    simp only [keyAt, Bool.and_eq_true, Bool.not_eq_true'] at h
    have hne : j ≠ d := fun e => by
      have := h.1
      simp [e] at this
    have ih := look_set (c := c) (i := i) r p h.2
    by_cases eq : j = i
    · subst eq
      simp [look_self, look_other hne.symm]
    · simp only [List.set_cons_succ, look_other eq, ih]
      by_cases e2 : d = i
      · subst e2
        simp [look_self]
      · simp [look_other e2, look_other eq]
section
variable {n : Nat} {F F' : List (Nat × Option Value)} {a : Act} {B : Nat} {w0 w : World} {L L' : List (Nat × Option Ent)}
theorem Fr.repl {c : Option Value} {d : Nat} (h : Fr n ((d, c) :: F) a) (p : Nat) (hp : keyAt p d F = true) : Fr n (F.set p (d, c)) a := ⟨h.sz, h.df, fun i v hv => h.has i v ((look_set F p hp).symm.trans hv)⟩
theorem Fr.cast (h : Fr n F a) (e : F = F') : Fr n F' a := e ▸ h
theorem Fr.co {G : List (Nat × Option Value)} (h : Fr n G a) (h0 : Fr n F a) {i : Nat} {c : Option Value} (hv : look i F = c) : Fr n ((i, c) :: G) a := by
  cases c with
  | none =>
    refine ⟨h.sz, h.df, fun j u hu => ?_⟩
    by_cases e : i = j
    · subst e
      rw [look_self] at hu
      cases hu
    · rw [look_other e] at hu
      exact h.has j u hu
  | some v => exact h.c h0 hv rfl
theorem Mem.repl {c : Option Ent} {d : Nat} (h : Mem B w0 ((d, c) :: L) w) (p : Nat) (hp : keyAt p d L = true) : Mem B w0 (L.set p (d, c)) w := h.sub fun i v hv => (look_set L p hp).symm.trans hv
theorem Mem.cast (h : Mem B w0 L w) (e : L = L') : Mem B w0 L' w := e ▸ h
theorem Sub.co (h : Sub L' L) {k : Nat} {c : Option Ent} (hk : look k L = c) : Sub ((k, c) :: L') L := fun j x hx => by
  by_cases eq : k = j
  · subst eq
    rw [look_self] at hx
    exact hk.trans hx
  · rw [look_other eq] at hx
    exact h j x hx
end

/-- What a call hands back that makes a slice: a value with a slice of n elements in it that is the caller's own. -/
def RetOwn (w : World) (mk : Value → Value) (e size n : Nat) (xs : List Value) (en : Ending) (w' : World) : Prop :=
  ∃ A cap, en = .returned (mk (.slice A n cap)) ∧ w'.ownsRow w.heap.size e size (.slice A n cap) n xs ∧ Below w.heap.size w w'
/-- The same, of a slice that can be read. -/
def RetRo (w : World) (mk : Value → Value) (n : Nat) (xs : List Value) (en : Ending) (w' : World) : Prop :=
  ∃ A cap, en = .returned (mk (.slice A n cap)) ∧ n ≤ cap ∧ Ro w' A xs ∧ (∀ b, (Ent.ro A xs).blk = some b → w.heap.size ≤ b) ∧ Below w.heap.size w w'
section
variable {P : Program} {n : Nat} {F : List (Nat × Option Value)} {a : Act} {o : Oper} {w w0 : World} {ops : Array Oper} {Q : Exit → Act → World → Prop} {B : Nat} {L : List (Nat × Option Ent)} {K : Act → World → Prop} {d f : Nat} {args : Array Value} {mk : Value → Value} {xs : List Value} {m e size : Nat}
theorem sRo (k : Nat) (hF : Fr n F a) (hM : Mem B w0 L w) (hg : wantF ops F o = some true) (hd : o.dst = some d) (hn : d < n) (hk : known F o = true) (hr : ∀ w, (execOp (evF F) o).run P w = .ok (.enter f args) w)
    (hc : Calls P f args w (RetRo w mk m xs))
    (kk : ∀ A cap a' w', m ≤ cap → Fr n ((d, some (mk (.slice A m cap))) :: F) a' → Mem B w0 ((k, some (.ro A xs)) :: L) w' → K a' w') : One P ops Q o K a w :=
  sC hF hg hd hn hk hr (hc.mono fun _ w' ⟨A, cap, he, hcap, hro, hfr, hb⟩ => ⟨_, he, fun a' ha => kk A cap a' w' hcap ha (hM.fresh hb k hro hfr)⟩)
theorem sOwn (k : Nat) (hF : Fr n F a) (hM : Mem B w0 L w) (hg : wantF ops F o = some true) (hd : o.dst = some d) (hn : d < n) (hk : known F o = true) (hr : ∀ w, (execOp (evF F) o).run P w = .ok (.enter f args) w)
    (hc : Calls P f args w (RetOwn w mk e size m xs))
    (kk : ∀ A cap a' w', Fr n ((d, some (mk (.slice A m cap))) :: F) a' → Mem B w0 ((k, some (.own (.slice A m cap) e size m xs)) :: L) w' → K a' w') : One P ops Q o K a w :=
  sC hF hg hd hn hk hr (hc.mono fun _ w' ⟨A, cap, he, ho, hb⟩ => ⟨_, he, fun a' ha => kk A cap a' w' ha (hM.fresh hb k (own_base ho hM.lo) fun _ hbb => (own_lt ho hbb).1)⟩)
end

/-! A region that draws its order: first operations that only read or call, in any order, then the others one after the other. -/
section
variable {P : Program} {Q : Exit → Act → World → Prop} {C : World → Prop}
theorem qOp_wpOp {l : List Oper} {n i : Nat} {a : Act} {w : World} {K : Act → Prop} {K' : Act → World → Prop} (hi : i < n) (hg : ∀ o, l[i]? = some o → ∀ j b, o.guard = some (j, b) → j < n) (hn : n ≤ l.length)
    (hC : C w) (h : ∀ a w', C w' → K a → K' a w') (hh : qOp P (l.take n).toArray C i K a) : wpOp P l.toArray Q i K' a w := by
  have e : (l.take n).toArray[i]? = l.toArray[i]? := by simp [List.getElem?_take, hi]
  unfold qOp at hh
  unfold wpOp
  rw [e] at hh
  split
  · rename_i ho
    simp only [ho] at hh
    exact h _ _ hC hh
  · rename_i o ho
    simp only [ho] at hh
    have hw : Region.wanted o (yielded (l.take n).toArray a.tmps) = Region.wanted o (yielded l.toArray a.tmps) := by
      unfold Region.wanted
      cases hgd : o.guard with
      | none => rfl
      | some p =>
        obtain ⟨j, b⟩ := p
        have hj := hg o (by simpa using ho) j b hgd
        simp [yielded, List.getElem?_take, hj]
    rw [hw] at hh
    split
    · rename_i hwd
      rw [if_pos hwd] at hh
      exact .inl (Oper.wp_of_quiet hC h hh)
    · rename_i hwd
      rw [if_neg hwd] at hh
      exact h _ _ hC hh
/-- The checks on such a region: n operations ahead of the others. -/
def tailB (l : List Oper) (n : Nat) : Bool :=
  fwdB l && Nat.blt n l.length && Region.lexB .any (l.take n).toArray && Region.sinkB .any l.toArray n && Region.chainB .any l.toArray n && (l.take n).all fun o => match o.guard with | none => true | some (j, _) => Nat.blt j n
theorem wpAny_chain {l : List Oper} {n : Nat} (hfwd : ∀ i o, l[i]? = some o → ∀ e ∈ o.after, Region.binds .any e = true → e.on < i) (hch : Region.chainB .any l.toArray n = true) :
    ∀ (m k : Nat) (listed : Array Bool) (a : Act) (w : World), n ≤ k → k + m = l.length → listed.size = l.length → (∀ i, i < k → listed.getD i false = true) → (∀ i, k ≤ i → i < l.length → listed.getD i true = false) →
      wpList P l.toArray Q (l.drop k) a w → wpAny P .any l.toArray Q m listed a w := by
  intro m
  induction m with
  | zero =>
    intro k listed a w hk hm hsz h1 h2 h
    have hd : l.drop k = [] := List.drop_eq_nil_of_le (by omega)
    rw [hd] at h
    refine ⟨?_, h⟩
    rcases hr : Region.ready .any l.toArray listed with _ | ⟨i, r⟩
    · rfl
    · exfalso
      have hi : i ∈ Region.ready .any l.toArray listed := by rw [hr]; simp
      obtain ⟨hun, o, ho, _⟩ := mem_ready.1 hi
      have hlt : i < l.length := by
        have := (Array.getElem?_eq_some_iff.1 ho).1
        simpa using this
      have := h1 i (by omega)
      have hlt' : i < listed.size := by omega
      simp [hlt'] at this hun
      rw [this] at hun
      cases hun
  | succ m ih =>
    intro k listed a w hk hm hsz h1 h2 h
    have hkl : k < l.length := by omega
    have hd : l.drop k = l[k] :: l.drop (k + 1) := List.drop_eq_getElem_cons hkl
    rw [hd] at h
    have hk0 : l[k]? = some l[k] := List.getElem?_eq_getElem hkl
    have honly : ∀ i ∈ Region.ready .any l.toArray listed, i = k := fun i hi => by
      obtain ⟨hun, o, ho, hpre⟩ := mem_ready.1 hi
      have hlt : i < l.length := by
        have := (Array.getElem?_eq_some_iff.1 ho).1
        simpa using this
      rcases Nat.lt_trichotomy i k with hik | hik | hik
      · have := h1 i hik
        have hlt' : i < listed.size := by omega
        simp [hlt'] at this hun
        rw [this] at hun
        cases hun
      · exact hik
      · exfalso
        have hc := List.all_eq_true.1 hch i (List.mem_range.2 (by simpa using hlt))
        simp only [Bool.or_eq_true, decide_eq_true_eq] at hc
        rcases hc with hc | hc
        · omega
        · obtain ⟨oj, hoj, e, he, hb, hon⟩ := Region.waitsFor_spec hc
          have : oj = o := Option.some.inj (hoj.symm.trans ho)
          subst this
          have h3 := hpre e he hb
          have h4 := h2 (i - 1) (by omega) (by omega)
          have hlt' : i - 1 < listed.size := by omega
          rw [hon] at h3
          simp [hlt'] at h3 h4
          rw [h3] at h4
          cases h4
    have hrk : k ∈ Region.ready .any l.toArray listed := mem_ready.2 ⟨h2 k (Nat.le_refl _) hkl, l[k], by simp, fun e he hb => h1 _ (hfwd k _ hk0 e he hb)⟩
    refine ⟨fun h0 => absurd hrk (by rw [h0]; simp), fun i hi => ?_⟩
    obtain rfl := honly i hi
    have hw : wpOp P l.toArray Q i (wpList P l.toArray Q (l.drop (i + 1))) a w := by
      unfold wpOp
      rw [show l.toArray[i]? = some l[i] by simp]
      exact h
    refine wpOp_mono (fun a' w' h' => ih (i + 1) _ a' w' (by omega) (by omega) (by simpa using hsz) (fun j hj => ?_) (fun j hj hj' => ?_) h') hw
    · by_cases e : i = j
      · subst e
        have : i < listed.size := by omega
        simp [Array.getD_eq_getD_getElem?, this]
      · rw [getD_set_ne false e]
        exact h1 j (by omega)
    · rw [getD_set_ne true (by omega)]
      exact h2 j (by omega) hj'
/-- The rule. -/
theorem rT {id : Nat} {l : List Oper} {a : Act} {w : World} (n : Nat) (hm : P.follows .mixedOrders = true) (hB : tailB l n = true) (hC : C { w with drawn := w.drawn + 1 })
    (h : wpQuiet P (l.take n).toArray C (fun a' => ∀ w', C w' → wpList P l.toArray Q (l.drop n) a' w') (l.take n) a) : (Code.region id l.toArray true).wp P Q a w := by
  simp only [tailB, Bool.and_eq_true] at hB
  obtain ⟨⟨⟨⟨⟨hf, hlt⟩, hlex⟩, hsink⟩, hchain⟩, hgd⟩ := hB
  have hnl : n < l.length := Nat.le_of_ble_eq_true hlt
  have hfwd : ∀ i o, l[i]? = some o → ∀ e ∈ o.after, Region.binds .any e = true → e.on < i := fun i o ho e he hb => by
    have h1 := List.all_eq_true.1 hf (o, i) (by rw [List.mem_iff_getElem?]; exact ⟨i, by simp [ho]⟩)
    have h2 := List.all_eq_true.1 h1 e (by simpa using he)
    simp only [hb, Bool.not_true, Bool.false_or] at h2
    exact Nat.le_of_ble_eq_true h2
  have hguard : ∀ i, i < n → ∀ o, l[i]? = some o → ∀ j b, o.guard = some (j, b) → j < n := fun i hi o ho j b hg => by
    have h1 := List.all_eq_true.1 hgd o (List.mem_of_getElem? (i := i) (by rw [List.getElem?_take, if_pos hi]; exact ho))
    rw [hg] at h1
    exact Nat.le_of_ble_eq_true h1
  refine wp_region_any hm ?_
  simp only [Region.lexB, Bool.and_eq_true] at hlex
  have hlen : (l.take n).length = n := by simp; omega
  have hq := wpAnyQ_lex (P := P) (C := C) (md := .any) hlex.1 (l.take n) 0 (Array.replicate (l.take n).toArray.size false) a (by simp) (by simpa using hlex.2) h
  rw [hlen] at hq
  have key : ∀ (f : Nat) (hd : Array Bool) (a : Act) (w : World), hd.size = n → hd.toList.count false = f → C w →
      (∀ j oj, l[j]? = some oj → hd.getD j false = true → ∀ e ∈ oj.after, Region.binds .any e = true → hd.getD e.on false = true) →
      wpAnyQ P .any (l.take n).toArray C (fun a' => ∀ w', C w' → wpList P l.toArray Q (l.drop n) a' w') f hd a →
      wpAny P .any l.toArray Q (f + (l.length - n)) (hd ++ Array.replicate (l.length - n) false) a w := by
    intro f
    induction f with
    | zero =>
      intro hd a w hsz hcnt hCw _ hh
      rw [Nat.zero_add]
      have hall : ∀ i, i < n → hd.getD i false = true := fun i hi => by
        have hi' : i < hd.size := by omega
        cases hv : hd[i] with
        | true => simp [Array.getD_eq_getD_getElem?, hi', hv]
        | false =>
          have : false ∈ hd.toList := by rw [← hv]; simp
          have := List.count_pos_iff.2 this
          omega
      refine wpAny_chain hfwd hchain (l.length - n) n _ a w (Nat.le_refl _) (by omega) (by simp [hsz]; omega) (fun i hi => ?_) (fun i hi hi' => ?_) (hh.2 w hCw)
      · have := hall i hi
        have hi' : i < hd.size := by omega
        simp [Array.getD_eq_getD_getElem?, Array.getElem?_append, hi'] at this ⊢
        exact this
      · have h1 : ¬ i < hd.size := by omega
        have h2 : i - hd.size < l.length - n := by omega
        simp [Array.getD_eq_getD_getElem?, Array.getElem?_append, h1, h2]
    | succ f ih =>
      intro hd a w hsz hcnt hCw hcl hh
      have hfull : ∀ i, i < n → ∀ d, (hd ++ Array.replicate (l.length - n) false).getD i d = hd.getD i d := fun i hi d => by
        have hi' : i < hd.size := by omega
        simp [Array.getD_eq_getD_getElem?, Array.getElem?_append, hi']
      have hsz' : (hd ++ Array.replicate (l.length - n) false).size = l.length := by simp [hsz]; omega
      have inv : HeadInv .any l.toArray n (hd ++ Array.replicate (l.length - n) false) := by
        refine ⟨by simpa using hsz', fun j oj hj hl e he hb => ?_, fun t ht ht' => ?_⟩
        · have hj' : l[j]? = some oj := by simpa using hj
          have he' := hfwd j oj hj' e he hb
          rcases Nat.lt_or_ge j n with hjn | hjn
          · rw [hfull j hjn] at hl
            rw [hfull e.on (by omega)]
            exact hcl j oj hj' hl e he hb
          · exfalso
            have h1 : ¬ j < hd.size := by omega
            simp [Array.getD_eq_getD_getElem?, Array.getElem?_append, h1] at hl
            rcases Nat.lt_or_ge (j - hd.size) (l.length - n) with h2 | h2
            · simp [h2] at hl
            · simp [show ¬ (j - hd.size < l.length - n) by omega] at hl
        · have h1 : ¬ t < hd.size := by omega
          have h2 : t - hd.size < l.length - n := by simp at ht'; omega
          simp [Array.getD_eq_getD_getElem?, Array.getElem?_append, h1, h2]
      obtain ⟨i0, hi0, hu0⟩ : ∃ i, i < n ∧ hd.getD i true = false := by
        have hpos : 0 < hd.toList.count false := by omega
        obtain ⟨i, hi⟩ := List.getElem?_of_mem (List.count_pos_iff.1 hpos)
        have hlt := (List.getElem?_eq_some_iff.1 hi).1
        simp only [Array.length_toList] at hlt
        refine ⟨i, by omega, ?_⟩
        have : hd[i]? = some false := by simpa using hi
        simp [Array.getD_eq_getD_getElem?, this]
      have hno : ∀ t, n ≤ t → t ∉ Region.ready .any l.toArray (hd ++ Array.replicate (l.length - n) false) :=
        tail_waits hsink hchain (by simpa using hnl) inv _ i0 rfl hi0 (by rw [hfull i0 hi0]; exact hu0)
      have hin : ∀ i, i ∈ Region.ready .any l.toArray (hd ++ Array.replicate (l.length - n) false) ↔ i ∈ Region.ready .any (l.take n).toArray hd := fun i => by
        constructor
        · intro hi
          have hlt : i < n := by
            rcases Nat.lt_or_ge i n with h1 | h1
            · exact h1
            · exact absurd hi (hno i h1)
          obtain ⟨hun, o, ho, hpre⟩ := mem_ready.1 hi
          refine mem_ready.2 ⟨by rw [hfull i hlt] at hun; exact hun, o, by simpa [List.getElem?_take, hlt] using ho, fun e he hb => ?_⟩
          have := hpre e he hb
          rwa [hfull e.on (by have := hfwd i o (by simpa using ho) e he hb; omega)] at this
        · intro hi
          obtain ⟨hun, o, ho, hpre⟩ := mem_ready.1 hi
          have hlt : i < n := by
            have := (Array.getElem?_eq_some_iff.1 ho).1
            simp at this
            omega
          have ho' : l[i]? = some o := by simpa [List.getElem?_take, hlt] using ho
          refine mem_ready.2 ⟨by rw [hfull i hlt]; exact hun, o, by simpa using ho', fun e he hb => ?_⟩
          rw [hfull e.on (by have := hfwd i o ho' e he hb; omega)]
          exact hpre e he hb
      rw [show f + 1 + (l.length - n) = (f + (l.length - n)) + 1 by omega]
      refine ⟨fun h0 => ?_, fun i hi => ?_⟩
      · exfalso
        obtain ⟨m, ⟨hm1, hm2⟩, hmin⟩ := least_of (p := fun i => i < n ∧ hd.getD i true = false) i0 ⟨hi0, hu0⟩
        have ho : l[m]? = some (l[m]'(by omega)) := List.getElem?_eq_getElem (by omega)
        have : m ∈ Region.ready .any l.toArray (hd ++ Array.replicate (l.length - n) false) := by
          refine mem_ready.2 ⟨by rw [hfull m hm1]; exact hm2, l[m]'(by omega), by simp, fun e he hb => ?_⟩
          have hlt := hfwd m _ ho e he hb
          rw [hfull e.on (by omega)]
          have hlt' : e.on < hd.size := by omega
          cases hv : hd[e.on] with
          | true => simp [Array.getD_eq_getD_getElem?, hlt', hv]
          | false =>
            have := hmin e.on ⟨by omega, by simp [Array.getD_eq_getD_getElem?, hlt', hv]⟩
            omega
        rw [h0] at this
        cases this
      · have hi' := (hin i).1 hi
        have hlt : i < n := by
          rcases Nat.lt_or_ge i n with h1 | h1
          · exact h1
          · exact absurd hi (hno i h1)
        obtain ⟨hun, o, ho, hpre⟩ := mem_ready.1 hi'
        have ho' : l[i]? = some o := by simpa [List.getElem?_take, hlt] using ho
        refine qOp_wpOp hlt (hguard i hlt) (by omega) hCw (fun a' w' hCw' hk => ?_) (hh.2 i hi')
        have hset : (hd ++ Array.replicate (l.length - n) false).setIfInBounds i true = hd.setIfInBounds i true ++ Array.replicate (l.length - n) false := by
          rw [Array.setIfInBounds_append, if_pos (by omega)]
        rw [hset]
        refine ih _ a' w' (by simpa using hsz) ?_ hCw' (fun j oj hj hl e he hb => ?_) hk
        · have hl : (hd.setIfInBounds i true).toList = hd.toList.set i true := by simp
          have hi2 : i < hd.size := by omega
          rw [hl, List.count_set (by simpa using hi2)]
          have hf' : (hd.toList[i]'(by simpa using hi2) == false) = true := by
            simp [hi2] at hun
            simp [hun]
          rw [hcnt, if_pos hf', if_neg (by decide)]
          omega
        · by_cases e1 : i = j
          · subst e1
            obtain rfl : oj = o := Option.some.inj (hj.symm.trans ho')
            exact getD_set_true (hpre e he hb)
          · rw [getD_set_ne false e1] at hl
            exact getD_set_true (hcl j oj hj hl e he hb)
  have hk := key n (Array.replicate (l.take n).toArray.size false) a _ (by simp; omega) (by simp; omega) hC (fun j oj hj hl => by
    rw [getD_replicate_false] at hl
    cases hl) hq
  have e : Array.replicate (l.take n).toArray.size false ++ Array.replicate (l.length - n) false = Array.replicate l.toArray.size false := by
    apply Array.ext
    · simp; omega
    · intro i h1 h2
      simp
  rw [e, show n + (l.length - n) = l.toArray.size by simp; omega] at hk
  exact hk
end

/-! Several operations at once that only compute: the values are checked by running them. -/
/-- The slots after operations that only compute, in a world. -/
def runF (P : Program) (ops : Array Oper) (n : Nat) (w : World) : List Oper → List (Nat × Option Value) → Option (List (Nat × Option Value) × World)
  | [], F => some (F, w)
  | o :: r, F => match o.dst with
    | none => none
    | some d => match Nat.blt d n, wantF ops F o with
      | true, some false => runF P ops n w r ((d, some undef) :: F)
      | true, some true => match known F o, (execOp (evF F) o).run P w with
        | true, .ok (.value v) w' => runF P ops n w' r ((d, some v) :: F)
        | _, _ => none
      | _, _ => none
def pushF : List (Nat × Value) → List (Nat × Option Value) → List (Nat × Option Value)
  | [], F => F
  | (d, v) :: r, F => pushF r ((d, some v) :: F)
section
variable {P : Program} {n : Nat} {F F' : List (Nat × Option Value)} {a : Act} {w w' : World} {ops : Array Oper} {Q : Exit → Act → World → Prop}
theorem runF_list : ∀ (l : List Oper) (rest : List Oper) (F : List (Nat × Option Value)) (a : Act) (w : World), Fr n F a → runF P ops n w l F = some (F', w') → (∀ a', Fr n F' a' → wpList P ops Q rest a' w') → wpList P ops Q (l ++ rest) a w
  | [], rest, F, a, w, hF, h, k => by
    simp only [runF, Option.some.injEq, Prod.mk.injEq] at h
    obtain ⟨rfl, rfl⟩ := h
    exact k a hF
  | o :: r, rest, F, a, w, hF, h, k => by
    unfold runF at h
    split at h
    · cases h
    · rename_i d hd
      split at h
      · rename_i hn hw
        exact wl (sSkip hF hw hd (Nat.le_of_ble_eq_true hn) fun a' ha => runF_list r rest _ a' w ha h k)
      · rename_i hn hw
        split at h
        · rename_i v w1 hk hr
          exact wl (sW hF hw hd (Nat.le_of_ble_eq_true hn) hk hr fun a' ha => runF_list r rest _ a' _ ha h k)
        · cases h
      · cases h
/-- k operations at once. -/
theorem sB {l : List Oper} (k : Nat) (ds : List (Nat × Value)) (hF : Fr n F a) (h : runF P ops n w (l.take k) F = some (pushF ds F, w)) (kk : ∀ a', Fr n (pushF ds F) a' → wpList P ops Q (l.drop k) a' w) : wpList P ops Q l a w := by
  have := runF_list (P := P) (ops := ops) (Q := Q) (l.take k) (l.drop k) F a w hF h kk
  rwa [List.take_append_drop] at this
end
/-- The short form of sP where the value is that which the operation yields. -/
def okO (n : Nat) (ops : Array Oper) (F : List (Nat × Option Value)) (o : Oper) (d : Nat) : Bool :=
  (match o.dst with | some j => Nat.beq j d | none => false) && Nat.blt d n && (match wantF ops F o with | some true => true | _ => false) && known F o
theorem okO_spec {n : Nat} {ops : Array Oper} {F : List (Nat × Option Value)} {o : Oper} {d : Nat} (h : okO n ops F o d = true) : o.dst = some d ∧ d < n ∧ wantF ops F o = some true ∧ known F o = true := by
  simp only [okO, Bool.and_eq_true] at h
  obtain ⟨⟨⟨h1, h2⟩, h3⟩, h4⟩ := h
  refine ⟨?_, Nat.le_of_ble_eq_true h2, ?_, h4⟩
  · split at h1
    · rename_i j hj
      rw [hj, Nat.eq_of_beq_eq_true h1]
    · cases h1
  · split at h3
    · assumption
    · cases h3
section
variable {P : Program} {n : Nat} {F : List (Nat × Option Value)} {a : Act} {o : Oper} {v v0 : Value} {w w0 : World} {ops : Array Oper} {Q : Exit → Act → World → Prop} {B : Nat} {L : List (Nat × Option Ent)} {K : Act → World → Prop} {C : World → Prop} {rest : List Oper} {R : Act → Prop}
theorem eP (d : Nat) (hF : Fr n F a) (h : okO n ops F o d = true) (hr : ∀ w, (execOp (evF F) o).run P w = .ok (.value v0) w) (hv : v0 = v) (k : ∀ a', Fr n ((d, some v) :: F) a' → K a' w) : One P ops Q o K a w :=
  have ⟨h1, h2, h3, h4⟩ := okO_spec h
  sP hF h3 h1 h2 h4 hr hv k
theorem eM (d : Nat) (hF : Fr n F a) (hM : Mem B w0 L w) (h : okO n ops F o d = true) (hy : Yld P o a (Mem B w0 L) v) (k : ∀ a' w', Fr n ((d, some v) :: F) a' → Mem B w0 L w' → K a' w') : One P ops Q o K a w :=
  have ⟨h1, h2, h3, _⟩ := okO_spec h
  sM hF hM h3 h1 h2 hy k
theorem eQ (d : Nat) (hF : Fr n F a) (h : okO n ops F o d = true) (hr : ∀ w, (execOp (evF F) o).run P w = .ok (.value v0) w) (hv : v0 = v) (k : ∀ a', Fr n ((d, some v) :: F) a' → wpQuiet P ops C R rest a') : wpQuiet P ops C R (o :: rest) a :=
  have ⟨h1, h2, h3, h4⟩ := okO_spec h
  qP hF h3 h1 h2 h4 hr hv k
theorem eQ2 (d : Nat) (hF : Fr n F a) (h : okO n ops F o d = true) (hy : Yld P o a C v) (k : ∀ a', Fr n ((d, some v) :: F) a' → wpQuiet P ops C R rest a') : wpQuiet P ops C R (o :: rest) a :=
  have ⟨h1, h2, h3, _⟩ := okO_spec h
  qL hF h3 h1 h2 hy k
/-- A load from a row. -/
theorem eL (d i off : Nat) {ty t : TypeId} {x : Operand} {b : Nat} {cs : Array Value} (hF : Fr n F a) (hM : Mem B w0 L w) (h : okO n ops F o d = true) (ho : o.op = .load ty x) (hi : look i L = some (.row b t cs)) (hx : evF F x = .pointer (some ⟨b, off, none⟩)) (hv : rdRow P ty cs.toList off = some v)
    (k : ∀ a' w', Fr n ((d, some v) :: F) a' → Mem B w0 L w' → K a' w') : One P ops Q o K a w := eM d hF hM h (yld_row hF ho (okO_spec h).2.2.2 hx hi hv) k
theorem eQL (d i off : Nat) {ty t : TypeId} {x : Operand} {b : Nat} {cs : Array Value} (hF : Fr n F a) (h : okO n ops F o d = true) (ho : o.op = .load ty x) (hi : look i L = some (.row b t cs)) (hx : evF F x = .pointer (some ⟨b, off, none⟩)) (hv : rdRow P ty cs.toList off = some v)
    (k : ∀ a', Fr n ((d, some v) :: F) a' → wpQuiet P ops (Mem B w0 L) R rest a') : wpQuiet P ops (Mem B w0 L) R (o :: rest) a := eQ2 d hF h (yld_row hF ho (okO_spec h).2.2.2 hx hi hv) k
theorem eN (d k : Nat) {t : Nat} (f : Nat → Value) (cs : Array Value) (hF : Fr n F a) (hM : Mem B w0 L w) (h : okO n ops F o d = true) (hr : ∀ w, (execOp (evF F) o).run P w = .ok (.value (f w.heap.size)) (w.alloc (.cells cs t)))
    (kk : ∀ b a' w', Fr n ((d, some (f b)) :: F) a' → Mem B w0 ((k, some (.row b t cs)) :: L) w' → K a' w') : One P ops Q o K a w :=
  have ⟨h1, h2, h3, h4⟩ := okO_spec h
  sNew k hF hM h3 h1 h2 h4 hr kk
end

theorem ro_of_own {w : World} {B e size n cap : Nat} {A : Option Addr} {xs : List Value} (h : w.ownsRow B e size (.slice A n cap) n xs) : Ro w A xs := fun j u hu => by
  have hn : 0 < n := by
    rcases Nat.eq_zero_or_pos n with h0 | h0
    · have h1 := h.1
      have h2 := (List.getElem?_eq_some_iff.1 hu).1
      subst h0
      omega
    · exact h0
  obtain ⟨g, hA, _, _, hc⟩ := own_cells h hn
  exact ⟨g, 0, hA, hc j u hu⟩
section
variable {P : Program} {n : Nat} {F : List (Nat × Option Value)} {a : Act} {o : Oper} {v : Value} {w w0 : World} {ops : Array Oper} {Q : Exit → Act → World → Prop} {B : Nat} {L : List (Nat × Option Ent)} {K : Act → World → Prop}
theorem roK (k : Nat) {A : Option Addr} {xs : List Value} (h : look k L = some (.ro A xs)) : ∀ w, Mem B w0 L w → Ro w A xs := fun _ hM => hM.ok k _ h
theorem roO (k : Nat) {A : Option Addr} {xs : List Value} {e size m cap : Nat} (h : look k L = some (.own (.slice A m cap) e size m xs)) : ∀ w, Mem B w0 L w → Ro w A xs := fun _ hM => ro_of_own (hM.ok k _ h)
theorem roR (k : Nat) {b t : Nat} {cs : Array Value} (h : look k L = some (.row b t cs)) : ∀ w, Mem B w0 L w → Ro w (some ⟨b, 0, none⟩) cs.toList := fun _ hM => hM.roRow h
theorem Mem.addNil (hM : Mem B w0 L w) (k e size : Nat) : Mem B w0 ((k, some (.own (.slice none 0 0) e size 0 [])) :: L) w :=
  hM.add k (World.ownsRow_nil w B e size) fun _ _ _ _ _ b hb => by cases hb
/-- A slice type's element: its number, size, bytes and zero. -/
def tyE (P : Program) (t : TypeId) : Option (TypeId × Nat × Nat × Value) :=
  match P.underlying t with
  | some (.slice e) => match P.info? e with
    | some i => match i.zero with
      | some z => some (e, i.size, i.bytes, z)
      | none => none
    | none => none
  | _ => none
theorem tyE_spec {t e size bytes : Nat} {z : Value} (h : tyE P t = some (e, size, bytes, z)) : P.underlying t = some (.slice e) ∧ ∃ i, P.info? e = some i ∧ i.zero = some z ∧ i.size = size ∧ i.bytes = bytes := by
  unfold tyE at h
  split at h
  · rename_i e' hu
    split at h
    · rename_i i hi
      split at h
      · rename_i z' hz
        injection h with h
        injection h with h1 h
        injection h with h2 h
        injection h with h3 h4
        subst h1 h2 h3 h4
        exact ⟨hu, i, hi, hz, rfl, rfl⟩
      · cases h
    · cases h
  · cases h
/-- make of a slice with all its elements. -/
theorem sMake (d k m : Nat) {t e size bytes : Nat} {x y : Operand} {z : Value} (xs : List Value) (hF : Fr n F a) (hM : Mem B w0 L w) (h : okO n ops F o d = true) (ho : o.op = .makeSlice t x y) (hx : evF F x = .int .i64 (m : Int)) (hy : evF F y = .int .i64 (m : Int))
    (ht : tyE P t = some (e, size, bytes, z)) (hxs : (madeCells z.cells (m * size)).toList = xs) (hb : bytes * m ≤ 281474976710656) (hm : m ≤ maxLen)
    (kk : ∀ b a' w', Fr n ((d, some (.slice (some ⟨b, 0, none⟩) m m)) :: F) a' → Mem B w0 ((k, some (.own (.slice (some ⟨b, 0, none⟩) m m) e size m xs)) :: L) w' → K a' w') : One P ops Q o K a w := by
  obtain ⟨h1, h2, h3, h4⟩ := okO_spec h
  obtain ⟨hu, i, hi, hz, hs, hby⟩ := tyE_spec ht
  subst hby
  obtain ⟨w', hr, how, hg⟩ := run_make_full (P := P) w w.heap.size t e i z size hu hi hz hs .i64 .i64 m hb hm (Nat.le_refl _)
  refine sW hF h3 h1 h2 h4 (v := .slice (some ⟨w.heap.size, 0, none⟩) m m) (w' := w') ?_ fun a' ha => kk _ a' _ ha ?_
  · simp [execOp, ho, hx, hy, hr]
  · rw [hxs] at how
    exact hM.fresh ⟨hg.os, hg.tape, hg.output, hg.size, fun k hk => hg.block k hk (by simp)⟩ k (own_base how hM.lo) fun b hb => (own_lt how hb).1
/-- make of an empty slice with room. -/
theorem sMake0 (d k m : Nat) {t e size bytes : Nat} {x y : Operand} {z : Value} (hF : Fr n F a) (hM : Mem B w0 L w) (h : okO n ops F o d = true) (ho : o.op = .makeSlice t x y) (hx : evF F x = .int .i64 0) (hy : evF F y = .int .i64 (m : Int))
    (ht : tyE P t = some (e, size, bytes, z)) (hb : bytes * m ≤ 281474976710656) (hm : m ≤ maxLen)
    (kk : ∀ b a' w', Fr n ((d, some (.slice (some ⟨b, 0, none⟩) 0 m)) :: F) a' → Mem B w0 ((k, some (.own (.slice (some ⟨b, 0, none⟩) 0 m) e size 0 [])) :: L) w' → K a' w') : One P ops Q o K a w := by
  obtain ⟨h1, h2, h3, h4⟩ := okO_spec h
  obtain ⟨hu, i, hi, hz, hs, hby⟩ := tyE_spec ht
  subst hby
  obtain ⟨w', hr, how, hg⟩ := run_make_own (P := P) w w.heap.size t e i z size hu hi hz hs .i64 .i64 m hb hm (Nat.le_refl _)
  refine sW hF h3 h1 h2 h4 (v := .slice (some ⟨w.heap.size, 0, none⟩) 0 m) (w' := w') ?_ fun a' ha => kk _ a' _ ha ?_
  · simp [execOp, ho, hx, hy, hr]
  · exact hM.fresh ⟨hg.os, hg.tape, hg.output, hg.size, fun k hk => hg.block k hk (by simp)⟩ k (own_base how hM.lo) fun b hb => (own_lt how hb).1
theorem run_store1 {P : Program} {w : World} {p : Addr} {u v : Value} (h1 : v.oneCell' = true) (hc : w.cell? p = some u) (hf : w.frozen? p = false) : (store p v).run P w = .ok () (w.setCell p v) := by
  cases v <;> simp_all [store, Sem.run, Value.oneCell']
/-- A store of one cell into a slice of the call's own. -/
theorem sStoreO (k : Nat) {ty e size m cap j : Nat} {x y : Operand} {A : Option Addr} {xs : List Value} (xs' : List Value) (hF : Fr n F a) (hM : Mem B w0 L w) (hg : wantF ops F o = some true) (hd : o.dst = none) (ho : o.op = .store ty x y) (hk : known F o = true) (hx : evF F x = .pointer (some (ea A j)))
    (hi : look k L = some (.own (.slice A m cap) e size m xs)) (hs : (P.info? ty).map (·.size) = some 1) (h1 : (evF F y).oneCell' = true) (hc : (evF F y).cells = #[evF F y]) (hj : j < xs.length) (hxs : xs.set j (evF F y) = xs')
    (kk : ∀ w', Mem B w0 ((k, some (.own (.slice A m cap) e size m xs')) :: L) w' → K a w') : One P ops Q o K a w := by
  have hown : w.ownsRow B e size (.slice A m cap) m xs := hM.ok k _ hi
  have hr := ro_of_own hown
  obtain ⟨hA, hcell⟩ := hr.at_ (List.getElem?_eq_getElem hj)
  have hlen := hown.1
  have hm : 0 < m := by
    rcases Nat.eq_zero_or_pos m with h0 | h0
    · subst h0
      omega
    · exact h0
  obtain ⟨g, hA', _, _, _⟩ := own_cells hown hm
  subst hA'
  have hea : ea (some ⟨g, 0, none⟩) j = ⟨g, j, none⟩ := by simp [ea, gA]
  rw [hea] at hcell hx
  obtain ⟨hst, hgr⟩ := hown.stored j (evF F y)
  have hfz := hown.frozenAt j
  refine sW0 hF hg hd hk (w' := w.setCell ⟨g, j, none⟩ (evF F y)) ?_ (kk _ (hM.turn hi rfl hgr (hxs ▸ hst) fun _ hb => .inl hb))
  cases hq : P.info? ty with
  | none => simp [hq] at hs
  | some q =>
    have hz : q.size = 1 := by simpa [hq] using hs
    have hstore : (store ⟨g, j, none⟩ (evF F y)).run P w = .ok () (w.setCell ⟨g, j, none⟩ (evF F y)) := run_store1 h1 hcell hfz
    have hcs : (storeCells ⟨g, j, none⟩ [evF F y]).run P w = .ok () (w.setCell ⟨g, j, none⟩ (evF F y)) := by
      simp only [storeCells, add_at, Nat.add_zero, Sem.run_bind, hstore, Result.andThen_ok, Sem.run_pure]
    have hvar : (storeVar ty ⟨g, j, none⟩ (evF F y)).run P w = .ok () (w.setCell ⟨g, j, none⟩ (evF F y)) := by
      unfold storeVar
      rw [hc]
      simp [sizeOf, typeInfo, hq, hz, hcs]
    simp only [execOp, ho, hx, Instr.storeAt, Instr.sureAddr, Sem.run_bind, Sem.run_pure, Result.andThen_ok, hvar]
/-- append of the cells of a slice that can be read to a slice of the call's own. -/
theorem sApp (d k : Nat) {t e size bytes m c l cap : Nat} {s x : Operand} {z : Value} {A : Option Addr} {ad : Addr} {xs news : List Value} (xs' : List Value) (hF : Fr n F a) (hM : Mem B w0 L w) (h : okO n ops F o d = true) (ho : o.op = .call { callee := .builtin .append, args := #[s, x], argTypes := #[t, t] })
    (hs : evF F s = .slice A l cap) (hx : evF F x = .slice (some ad) m c) (ht : tyE P t = some (e, size, bytes, z)) (hzs : z.cells.size = size) (hsz : Nat.blt 0 size = true) (hi : look k L = some (.own (.slice A l cap) e size l xs))
    (hl : news.length = m * size) (hro : ∀ w, Mem B w0 L w → Ro w (some ad) news) (h1 : ∀ u ∈ news, u.oneCell' = true) (hlen : l + m ≤ 1000000) (hby : bytes ≤ 1000000) (hxs : xs ++ news = xs')
    (kk : ∀ A' cap' a' w', Fr n ((d, some (.slice A' (l + m) cap')) :: F) a' → Mem B w0 ((k, some (.own (.slice A' (l + m) cap') e size (l + m) xs')) :: L) w' → K a' w') : One P ops Q o K a w := by
  subst hxs
  obtain ⟨h1', h2, h3, h4⟩ := okO_spec h
  obtain ⟨hu, i, hinf, hz, hsize, hbytes⟩ := tyE_spec ht
  have hown : w.ownsRow B e size (.slice A l cap) l xs := hM.ok k _ hi
  have hread := hro w hM
  have hprod : (l + m) * bytes ≤ 1000000 * 1000000 := Nat.mul_le_mul hlen hby
  obtain ⟨v', w', hr, ho2, hg, _, hb⟩ := run_append_own_at (P := P) w B t o.type e i z size bytes hu hinf hz hsize hbytes hzs (Nat.le_of_ble_eq_true hsz) (.slice A l cap) l xs hown ad m c news hl (fun j u hu => by
      obtain ⟨b, off, e1, hc⟩ := hread j u hu
      injection e1 with e1
      subst e1
      rw [add_at]
      exact hc) h1 (by unfold maxLen; omega) (by omega) hM.lo
  obtain ⟨A', cap', rfl, _, _⟩ := own_form ho2
  refine sW hF h3 h1' h2 h4 (v := .slice A' (l + m) cap') (w' := w') ?_ fun a' ha => kk A' cap' a' w' ha (hM.turn hi rfl hg ho2 fun b hb' => ?_)
  · simp [execOp, ho, resolve, invoke, builtin, hs, hx, hr]
  · rcases hb with hb | hb
    · exact .inl (hb.symm.trans hb')
    · rw [show (Ent.own (.slice A' (l + m) cap') e size (l + m) (xs ++ news)).blk = Value.ownBlock (.slice A' (l + m) cap') from rfl, hb] at hb'
      injection hb' with hb'
      exact .inr (by omega)

/-- append of a slice that may be nil. -/
theorem sAppA (d k : Nat) {t e size bytes m c l cap : Nat} {s x : Operand} {z : Value} {A A2 : Option Addr} {xs news : List Value} (xs' : List Value) (hF : Fr n F a) (hM : Mem B w0 L w) (h : okO n ops F o d = true) (ho : o.op = .call { callee := .builtin .append, args := #[s, x], argTypes := #[t, t] })
    (hs : evF F s = .slice A l cap) (hx : evF F x = .slice A2 m c) (ht : tyE P t = some (e, size, bytes, z)) (hzs : z.cells.size = size) (hsz : Nat.blt 0 size = true) (hi : look k L = some (.own (.slice A l cap) e size l xs))
    (hl : news.length = m * size) (hro : ∀ w, Mem B w0 L w → Ro w A2 news) (h1 : ∀ u ∈ news, u.oneCell' = true) (hlen : l + m ≤ 1000000) (hby : bytes ≤ 1000000) (hxs : xs ++ news = xs') (hnil : A2 = none → m = 0 ∧ c = 0)
    (kk : ∀ A' cap' a' w', Fr n ((d, some (.slice A' (l + m) cap')) :: F) a' → Mem B w0 ((k, some (.own (.slice A' (l + m) cap') e size (l + m) xs')) :: L) w' → K a' w') : One P ops Q o K a w := by
  cases A2 with
  | some ad => exact sApp d k xs' hF hM h ho hs hx ht hzs hsz hi hl hro h1 hlen hby hxs kk
  | none =>
    obtain ⟨rfl, rfl⟩ := hnil rfl
    have hn : news = [] := List.length_eq_zero_iff.1 (by rw [hl]; simp)
    subst hn
    rw [List.append_nil] at hxs
    subst hxs
    obtain ⟨h1', h2, h3, h4⟩ := okO_spec h
    obtain ⟨hu, i, hinf, _, _, _⟩ := tyE_spec ht
    have hown : w.ownsRow B e size (.slice A l cap) l xs := hM.ok k _ hi
    have hr := run_append_owned_none (P := P) w B t o.type e i size hu hinf (.slice A l cap) l xs hown
    refine sW hF h3 h1' h2 h4 (v := .slice A l cap) (w' := w) ?_ fun a' ha => kk A cap a' w ha (hM.turn hi rfl (grown_refl w _) hown fun _ hb => .inl hb)
    simp [execOp, ho, resolve, invoke, builtin, hs, hx, hr]
theorem Mem.rowOwn {k b t m size : Nat} {cs : Array Value} (hM : Mem B w0 L w) (h : look k L = some (.row b t cs)) (hs : cs.size = m * size) (hm : m ≤ maxLen) : Mem B w0 ((k, some (.own (.slice (some ⟨b, 0, none⟩) m m) t size m cs.toList)) :: L) w :=
  hM.turn h rfl (grown_refl w _) ⟨by simpa using hs, .inr ⟨b, m, cs, rfl, (hM.ok k _ h).2, (hM.ok k _ h).1, Nat.le_refl _, hm, hs, List.take_of_length_le (by simp; omega)⟩⟩ fun _ hb => .inl hb
theorem flat2_snoc' (l : List (Int × Int)) (x y : Int) : flat2 l ++ [.int .i64 x, .int .i64 y] = flat2 (l ++ [(x, y)]) := (flat2_snoc l (x, y)).symm
theorem map_snoc' (l : List Int) (x : Int) (kd : IntKind) : l.map (Value.int kd) ++ [.int kd x] = (l ++ [x]).map (Value.int kd) := by rw [List.map_append]; rfl
theorem map_set' (l : List Int) (j : Nat) (x : Int) (kd : IntKind) : (l.map (Value.int kd)).set j (.int kd x) = (l.set j x).map (Value.int kd) := List.map_set.symm
end

/-! An element of an array of integers, by an index that is not known. -/
section
variable {P : Program} {n : Nat} {F : List (Nat × Option Value)} {a : Act} {o : Oper} {C : World → Prop}
theorem yld_index {t : TypeId} {x ix : Operand} {X I u : Value} (hF : Fr n F a) (ho : o.op = .index t x ix) (hk : known F o = true) (hx : evF F x = X) (hi : evF F ix = I) (hr : ∀ w, (Instr.index t X I).run P w = .ok u w) : Yld P o a C u := by
  intro w _
  unfold Oper.quietAt
  rw [hF.exec hk]
  simp [execOp, ho, hx, hi, hr w, Oper.quietUpon]
end
theorem idx_agg {P : Program} {t e len m : Nat} {kd : IntKind} (xs : List Int) (i : Int) (hu : P.underlying t = some (.array len e)) (ha : aggSize P e = some (some m)) (h0 : 0 ≤ i ∧ i < len) (hl : xs.length = len * m) :
    ∃ ys : List Int, ys.length = m ∧ (∀ y ∈ ys, y ∈ xs) ∧ ∀ w, (Instr.index t (.agg (xs.map (Value.int kd)).toArray) (.int .i64 i)).run P w = .ok (.agg (ys.map (Value.int kd)).toArray) w := by
  have hmul : i.toNat * m + m ≤ len * m := by
    have : (i.toNat + 1) * m ≤ len * m := Nat.mul_le_mul_right m (by omega)
    rwa [Nat.succ_mul] at this
  refine ⟨(xs.drop (i.toNat * m)).take m, by simp; omega, fun y hy => List.mem_of_mem_drop (List.mem_of_mem_take hy), fun w => ?_⟩
  obtain ⟨d, q, hd, hagg, hq, hz⟩ := aggSize_some ha
  have hag : (isAgg e).run P w = .ok true w := isAgg_true hd hagg
  have hex : (xs.map (Value.int kd)).toArray.extract (i.toNat * m) (i.toNat * m + m) = (((xs.drop (i.toNat * m)).take m).map (Value.int kd)).toArray := by
    simp [List.extract_toArray, List.extract_eq_take_drop, List.map_take, List.map_drop]
  simp [Instr.index, asIntOf, run_underlying hu, h0, sizeOf, typeInfo, hq, hz, part, Sem.run_bind, hag, hex]
theorem len1 {l : List Int} (h : l.length = 1) : ∃ a, l = [a] := by
  match l, h with
  | [a], _ => exact ⟨a, rfl⟩
theorem len2 {l : List Int} (h : l.length = 2) : ∃ a b, l = [a, b] := by
  match l, h with
  | [a, b], _ => exact ⟨a, b, rfl⟩
theorem len3 {l : List Int} (h : l.length = 3) : ∃ a b c, l = [a, b, c] := by
  match l, h with
  | [a, b, c], _ => exact ⟨a, b, c, rfl⟩
theorem len4 {l : List Int} (h : l.length = 4) : ∃ a b c d, l = [a, b, c, d] := by
  match l, h with
  | [a, b, c, d], _ => exact ⟨a, b, c, d, rfl⟩
theorem len5 {l : List Int} (h : l.length = 5) : ∃ a b c d e, l = [a, b, c, d, e] := by
  match l, h with
  | [a, b, c, d, e], _ => exact ⟨a, b, c, d, e, rfl⟩
theorem idx_one {P : Program} {t e len : Nat} {kd : IntKind} (xs : List Int) (i : Int) (hu : P.underlying t = some (.array len e)) (ha : aggSize P e = some none) (hs : (P.info? e).map (·.size) = some 1) (h0 : 0 ≤ i ∧ i < len) (hl : xs.length = len) :
    ∃ y : Int, y ∈ xs ∧ ∀ w, (Instr.index t (.agg (xs.map (Value.int kd)).toArray) (.int .i64 i)).run P w = .ok (.int kd y) w := by
  have hlt : i.toNat < xs.length := by omega
  refine ⟨xs[i.toNat], List.getElem_mem hlt, fun w => ?_⟩
  obtain ⟨d, hd, hagg⟩ := aggSize_none ha
  have hag : (isAgg e).run P w = .ok false w := isAgg_false hd hagg
  cases hq : P.info? e with
  | none => simp [hq] at hs
  | some q =>
    have hz : q.size = 1 := by simpa [hq] using hs
    simp [Instr.index, asIntOf, run_underlying hu, h0, sizeOf, typeInfo, hq, hz, part, Sem.run_bind, hag, hlt]
theorem rounds_k {P : Program} {c : Code} {Q : Exit → Act → World → Prop} {n : Nat} {a : Act} {w : World} (h : ∀ K : Act → World → Prop, (∀ a w, Code.rounds P c Q n a w → K a w) → c.wp P (Exit.then K Q) a w) : Code.rounds P c Q (n + 1) a w := h _ fun _ _ h => h
/-! Entries under other keys; append to a literal; a part of a slice. -/
section
variable {P : Program} {n B : Nat} {F : List (Nat × Option Value)} {L : List (Nat × Option Ent)} {a : Act} {w w0 : World} {o : Oper} {ops : Array Oper} {Q : Exit → Act → World → Prop} {K : Act → World → Prop} {C : World → Prop}
theorem Mem.move (h : Mem B w0 L w) (k k' : Nat) {e : Ent} (hk : look k' L = some e) (hne : k ≠ k') : Mem B w0 ((k, some e) :: (k', none) :: L) w := by
  have key : ∀ i x, look i ((k, some e) :: (k', none) :: L) = some x → (i = k ∧ x = e) ∨ (i ≠ k ∧ i ≠ k' ∧ look i L = some x) := by
    intro i x hx
    by_cases h1 : i = k
    · subst h1
      rw [look_self] at hx
      exact .inl ⟨rfl, (Option.some.inj hx).symm⟩
    · rw [look_other (fun q => h1 q.symm)] at hx
      by_cases h2 : i = k'
      · subst h2
        rw [look_self] at hx
        cases hx
      · rw [look_other (fun q => h2 q.symm)] at hx
        exact .inr ⟨h1, h2, hx⟩
  refine ⟨h.bel, h.lo, fun i x hx => ?_, fun i j x y hij hx hy => ?_⟩
  · rcases key i x hx with ⟨_, rfl⟩ | ⟨_, _, hx⟩
    · exact h.ok k' _ hk
    · exact h.ok i _ hx
  · rcases key i x hx with ⟨i1, hx⟩ | ⟨i1, i2, hx⟩
    · rcases key j y hy with ⟨j1, hy⟩ | ⟨j1, j2, hy⟩
      · exact absurd (i1.trans j1.symm) hij
      · exact hx ▸ h.ap k' j _ _ (fun q => j2 q.symm) hk hy
    · rcases key j y hy with ⟨j1, hy⟩ | ⟨j1, j2, hy⟩
      · exact hy ▸ h.ap i k' _ _ i2 hx hk
      · exact h.ap i j _ _ hij hx hy
theorem Sub.mid (k : Nat) (x y : Option Ent) : Sub ((k, x) :: L) ((k, x) :: (k, y) :: L) := fun j e he => by
  by_cases h : j = k
  · subst h
    rw [look_self] at he ⊢
    exact he
  · rw [look_other (fun q => h q.symm)] at he ⊢
    rw [look_other (fun q => h q.symm)]
    exact he
theorem sAppR (d k : Nat) {t e size bytes m c l b : Nat} {s x : Operand} {z : Value} {A2 : Option Addr} {cs : Array Value} {news : List Value} (xs' : List Value) (hF : Fr n F a) (hM : Mem B w0 L w) (h : okO n ops F o d = true) (ho : o.op = .call { callee := .builtin .append, args := #[s, x], argTypes := #[t, t] })
    (hs : evF F s = .slice (some ⟨b, 0, none⟩) l l) (hx : evF F x = .slice A2 m c) (ht : tyE P t = some (e, size, bytes, z)) (hzs : z.cells.size = size) (hsz : Nat.blt 0 size = true) (hi : look k L = some (.row b e cs)) (hcs : cs.size = l * size)
    (hl : news.length = m * size) (hro : ∀ w, Mem B w0 ((k, some (.own (.slice (some ⟨b, 0, none⟩) l l) e size l cs.toList)) :: L) w → Ro w A2 news) (h1 : ∀ u ∈ news, u.oneCell' = true) (hlen : l + m ≤ 1000000) (hby : bytes ≤ 1000000) (hxs : cs.toList ++ news = xs') (hnil : A2 = none → m = 0 ∧ c = 0)
    (kk : ∀ A' cap' a' w', Fr n ((d, some (.slice A' (l + m) cap')) :: F) a' → Mem B w0 ((k, some (.own (.slice A' (l + m) cap') e size (l + m) xs')) :: L) w' → K a' w') : One P ops Q o K a w :=
  sAppA d k xs' hF (hM.rowOwn hi hcs (by unfold maxLen; omega)) h ho hs hx ht hzs hsz (look_self _ _ _) hl hro h1 hlen hby hxs hnil fun A' cap' a' w' ha hm => kk A' cap' a' w' ha (hm.sub (Sub.mid _ _ _))
theorem sAppR0 (d k : Nat) {t e size bytes m c b : Nat} {s x : Operand} {z : Value} {A2 : Option Addr} {news : List Value} (xs' : List Value) (hF : Fr n F a) (hM : Mem B w0 L w) (h : okO n ops F o d = true) (ho : o.op = .call { callee := .builtin .append, args := #[s, x], argTypes := #[t, t] })
    (hs : evF F s = .slice (some ⟨b, 0, none⟩) 0 0) (hx : evF F x = .slice A2 m c) (ht : tyE P t = some (e, size, bytes, z)) (hzs : z.cells.size = size) (hsz : Nat.blt 0 size = true) (hi : look k L = some (.row b e #[]))
    (hl : news.length = m * size) (hro : ∀ w, Mem B w0 ((k, some (.own (.slice (some ⟨b, 0, none⟩) 0 0) e size 0 [])) :: L) w → Ro w A2 news) (h1 : ∀ u ∈ news, u.oneCell' = true) (hlen : m ≤ 1000000) (hby : bytes ≤ 1000000) (hxs : news = xs') (hnil : A2 = none → m = 0 ∧ c = 0)
    (kk : ∀ A' cap' a' w', Fr n ((d, some (.slice A' m cap')) :: F) a' → Mem B w0 ((k, some (.own (.slice A' m cap') e size m xs')) :: L) w' → K a' w') : One P ops Q o K a w :=
  sAppR (l := 0) (cs := #[]) d k xs' hF hM h ho hs hx ht hzs hsz hi (by simp) hl hro h1 (by omega) hby (by simpa using hxs) hnil fun A' cap' a' w' g1 g2 => kk A' cap' a' w' (by rwa [Nat.zero_add] at g1) (by rwa [Nat.zero_add] at g2)
theorem Mem.roMore (h : Mem B w0 L w) (k j : Nat) {A : Option Addr} {xs xs' : List Value} (hj : look j L = some (.ro A xs)) (hs : ∀ (i : Nat) (u : Value), xs'[i]? = some u → xs[i]? = some u) : Mem B w0 ((k, some (.ro A xs')) :: L) w := by
  refine h.add k (fun i u hu => h.ok j _ hj i u (hs i u hu)) fun i x _ hx hw b hb => ?_
  by_cases e : i = j
  · subst e
    rw [hj] at hx
    injection hx with hx
    subst hx
    rcases hw with hw | hw <;> cases hw
  · cases xs' with
    | nil => cases hb
    | cons u r =>
      cases xs with
      | nil => exact absurd (hs 0 u rfl) (by simp)
      | cons v q => exact h.ap j i _ _ (fun q => e q.symm) hj hx (hw.imp id id) b hb
theorem yld_slice0 {t e len cap m : Nat} {x y : Operand} {A : Option Addr} {i : Int} (hF : Fr n F a) (ho : o.op = .slice t x none (some y) none) (hk : known F o = true) (hx : evF F x = .slice A len cap) (hy : evF F y = .int .i64 i) (hu : P.underlying t = some (.slice e)) (hs : (P.info? e).isSome = true) (hm : i = (m : Int)) (hc : m ≤ cap) : Yld P o a C (.slice A m cap) := by
  intro w _
  unfold Oper.quietAt
  rw [hF.exec hk]
  obtain ⟨q, hq⟩ := Option.isSome_iff_exists.1 hs
  have h0 : ((0 : Int) ≤ (m : Int) ∧ (m : Int) ≤ (cap : Int)) := by omega
  have hA : (if cap = 0 then A else A.map (·.add (0 * q.size))) = A := by
    split
    · rfl
    · cases A <;> simp [Addr.add]
  subst hm
  simp [execOp, ho, hx, hy, Instr.sliceAt, Instr.slice, run_underlying hu, Instr.sliceBounds, Instr.sliceBound, asIntOf, h0, hc, sizeOf, typeInfo, hq, hA, Oper.quietUpon, Addr.add]
theorem take_sub {α : Type} (xs : List α) (m : Nat) : ∀ (i : Nat) (u : α), (xs.take m)[i]? = some u → xs[i]? = some u := fun i u h => by
  rw [List.getElem?_take] at h
  split at h
  · exact h
  · cases h
theorem flat2_take (l : List (Int × Int)) : ∀ m : Nat, flat2 (l.take m) = (flat2 l).take (2 * m) := by
  induction l with
  | nil => intro m; simp [flat2]
  | cons x r ih =>
    intro m
    cases m with
    | zero => simp [flat2]
    | succ m =>
      have := ih m
      simp only [flat2] at this ⊢
      rw [List.take_succ_cons, List.flatMap_cons, List.flatMap_cons, this, Nat.mul_add]
      rfl
theorem flat2_sub (l : List (Int × Int)) (m : Nat) : ∀ (i : Nat) (u : Value), (flat2 (l.take m))[i]? = some u → (flat2 l)[i]? = some u := fun i u h => by
  rw [flat2_take] at h
  exact take_sub _ _ i u h
theorem ints_sub {kd : IntKind} (l : List Int) (m : Nat) : ∀ (i : Nat) (u : Value), ((l.take m).map (Value.int kd))[i]? = some u → (l.map (Value.int kd))[i]? = some u := fun i u h => by
  rw [List.map_take] at h
  exact take_sub _ _ i u h
end
/-! Shifts, bits, and numbers of 64 bits without a sign. -/
section
variable {P : Program} {n : Nat} {F : List (Nat × Option Value)} {a : Act} {o : Oper} {C : World → Prop}
theorem yld_shl {t t' : TypeId} {x y : Operand} {kd yk : IntKind} {r : Int} (p q : Int) (hF : Fr n F a) (ho : o.op = .binOp .shl t x y t') (hk : known F o = true) (hx : evF F x = .int kd p) (hy : evF F y = .int yk q) (hq : 0 ≤ q) (hr : kd.wrap (p * 2 ^ min q.toNat kd.bits) = r) : Yld P o a C (.int kd r) := by
  intro w _
  unfold Oper.quietAt
  rw [hF.exec hk]
  have hq' : ¬ q < 0 := by omega
  simp [execOp, ho, hx, hy, eqGuard, binOp, Op.shift, hq', hr, Oper.quietUpon]
theorem yld_shr {t t' : TypeId} {x y : Operand} {kd yk : IntKind} {r : Int} (p q : Int) (hF : Fr n F a) (ho : o.op = .binOp .shr t x y t') (hk : known F o = true) (hx : evF F x = .int kd p) (hy : evF F y = .int yk q) (hq : 0 ≤ q) (hr : p.fdiv (2 ^ min q.toNat kd.bits) = r) : Yld P o a C (.int kd r) := by
  intro w _
  unfold Oper.quietAt
  rw [hF.exec hk]
  have hq' : ¬ q < 0 := by omega
  simp [execOp, ho, hx, hy, eqGuard, binOp, Op.shift, hq', hr, Oper.quietUpon]
end
theorem shlN (x s r : Nat) {q : Int} (hq : q.toNat = s) (hs : s ≤ 64) (h : r = x * 2 ^ s) (hr : r < 18446744073709551616) : IntKind.u64.wrap ((x : Int) * 2 ^ min q.toNat IntKind.u64.bits) = (r : Int) := by
  have e : min q.toNat IntKind.u64.bits = s := by rw [hq]; exact Nat.min_eq_left hs
  have e2 : (x : Int) * 2 ^ s = ((x * 2 ^ s : Nat) : Int) := by simp
  rw [e, e2, ← h, u64_wrap]
  omega
theorem shlM (x s r : Nat) {q : Int} (hq : q.toNat = s) (hs : s ≤ 64) (h : r = x * 2 ^ s % 18446744073709551616) : IntKind.u64.wrap ((x : Int) * 2 ^ min q.toNat IntKind.u64.bits) = (r : Int) := by
  have e : min q.toNat IntKind.u64.bits = s := by rw [hq]; exact Nat.min_eq_left hs
  have e2 : (x : Int) * 2 ^ s = ((x * 2 ^ s : Nat) : Int) := by simp
  rw [e, e2, u64_wrap, h]
  omega
theorem shrN (x s r : Nat) {q : Int} (hq : q.toNat = s) (hs : s ≤ 64) (h : r = x / 2 ^ s) : (x : Int).fdiv (2 ^ min q.toNat IntKind.u64.bits) = (r : Int) := by
  have e : min q.toNat IntKind.u64.bits = s := by rw [hq]; exact Nat.min_eq_left hs
  rw [e, Int.fdiv_eq_ediv_of_nonneg _ (Int.pow_nonneg (by decide)), h]
  simp
theorem andMask (x r : Nat) (hx : x < 18446744073709551616) (h : r = x % 4294967296) : IntKind.u64.wrap ((BitVec.ofInt 64 (x : Int) &&& BitVec.ofInt 64 4294967295).toNat : Int) = (r : Int) := by
  have h1 : (BitVec.ofInt 64 (x : Int)).toNat = x := by rw [BitVec.ofInt_natCast, BitVec.toNat_ofNat]; exact Nat.mod_eq_of_lt hx
  have h2 : (BitVec.ofInt 64 4294967295).toNat = 4294967295 := by decide
  have e : x &&& 4294967295 = x % 4294967296 := Nat.and_two_pow_sub_one_eq_mod x 32
  rw [BitVec.toNat_and, h1, h2, e, u64_wrap]
  omega
theorem orN (x y r : Nat) (hx : x < 18446744073709551616) (hy : y < 18446744073709551616) (h : x ||| y = r) : IntKind.u64.wrap ((BitVec.ofInt 64 (x : Int) ||| BitVec.ofInt 64 (y : Int)).toNat : Int) = (r : Int) := by
  have hl : x ||| y < 2 ^ 64 := Nat.or_lt_two_pow hx hy
  have h1 : (BitVec.ofInt 64 (x : Int)).toNat = x := by rw [BitVec.ofInt_natCast, BitVec.toNat_ofNat]; exact Nat.mod_eq_of_lt hx
  have h2 : (BitVec.ofInt 64 (y : Int)).toNat = y := by rw [BitVec.ofInt_natCast, BitVec.toNat_ofNat]; exact Nat.mod_eq_of_lt hy
  rw [BitVec.toNat_or, h1, h2, u64_wrap]
  omega
/-! A store of two cells into a slice of the call's own; what a slice's capacity is at least; a made slice of pairs. -/
section
variable {P : Program} {n B : Nat} {F : List (Nat × Option Value)} {L : List (Nat × Option Ent)} {a : Act} {w w0 : World} {o : Oper} {ops : Array Oper} {Q : Exit → Act → World → Prop} {K : Act → World → Prop}
theorem sStoreO2 (k : Nat) {ty e size m cap j : Nat} {x y : Operand} {A : Option Addr} {xs : List Value} {u v : Value} (xs' : List Value) (hF : Fr n F a) (hM : Mem B w0 L w) (hg : wantF ops F o = some true) (hd : o.dst = none) (ho : o.op = .store ty x y) (hk : known F o = true) (hx : evF F x = .pointer (some (ea A j)))
    (hi : look k L = some (.own (.slice A m cap) e size m xs)) (hs : (P.info? ty).map (·.size) = some 2) (hc : (evF F y).cells = #[u, v]) (h1 : u.oneCell' = true) (h2 : v.oneCell' = true) (hj : j + 1 < xs.length) (hxs : (xs.set j u).set (j + 1) v = xs')
    (kk : ∀ w', Mem B w0 ((k, some (.own (.slice A m cap) e size m xs')) :: L) w' → K a w') : One P ops Q o K a w := by
  have hown : w.ownsRow B e size (.slice A m cap) m xs := hM.ok k _ hi
  have hlen := hown.1
  have hm : 0 < m := by
    rcases Nat.eq_zero_or_pos m with h0 | h0
    · subst h0
      omega
    · exact h0
  obtain ⟨g, hA', _, _, _⟩ := own_cells hown hm
  subst hA'
  have hea : ea (some ⟨g, 0, none⟩) j = ⟨g, j, none⟩ := by simp [ea, gA]
  rw [hea] at hx
  have hc0 : w.cell? ⟨g, j, none⟩ = some (xs[j]'(by omega)) := (hown.cellAt j (by omega)).trans (List.getElem?_eq_getElem (by omega))
  obtain ⟨hst, hgr⟩ := hown.stored j u
  have hf0 := hown.frozenAt j
  have hc1 : (w.setCell ⟨g, j, none⟩ u).cell? ⟨g, j + 1, none⟩ = some ((xs.set j u)[j + 1]'(by simpa using hj)) := (hst.cellAt (j + 1) (by omega)).trans (List.getElem?_eq_getElem (by simpa using hj))
  obtain ⟨hst2, hgr2⟩ := hst.stored (j + 1) v
  have hf1 := hst.frozenAt (j + 1)
  have hM1 := hM.turn (e' := .own (.slice (some ⟨g, 0, none⟩) m cap) e size m (xs.set j u)) hi rfl hgr hst fun _ hb => .inl hb
  have hM2 := hM1.turn (e' := .own (.slice (some ⟨g, 0, none⟩) m cap) e size m xs') (look_self _ _ _) rfl hgr2 (show World.ownsRow _ _ _ _ _ _ _ from hxs ▸ hst2) fun _ hb => .inl hb
  refine sW0 hF hg hd hk (w' := (w.setCell ⟨g, j, none⟩ u).setCell ⟨g, j + 1, none⟩ v) ?_ (kk _ (hM2.sub (Sub.mid _ _ _)))
  cases hq : P.info? ty with
  | none => simp [hq] at hs
  | some q =>
    have hz : q.size = 2 := by simpa [hq] using hs
    have hs1 : (store ⟨g, j, none⟩ u).run P w = .ok () (w.setCell ⟨g, j, none⟩ u) := run_store1 h1 hc0 hf0
    have hs2 : (store ⟨g, j + 1, none⟩ v).run P (w.setCell ⟨g, j, none⟩ u) = .ok () ((w.setCell ⟨g, j, none⟩ u).setCell ⟨g, j + 1, none⟩ v) := run_store1 h2 hc1 hf1
    have hcs : (storeCells ⟨g, j, none⟩ [u, v]).run P w = .ok () ((w.setCell ⟨g, j, none⟩ u).setCell ⟨g, j + 1, none⟩ v) := by
      simp only [storeCells, add_at, Nat.add_zero, Nat.zero_add, Sem.run_bind, hs1, hs2, Result.andThen_ok, Sem.run_pure]
    have hvar : (storeVar ty ⟨g, j, none⟩ (evF F y)).run P w = .ok () ((w.setCell ⟨g, j, none⟩ u).setCell ⟨g, j + 1, none⟩ v) := by
      unfold storeVar
      rw [hc]
      simp [sizeOf, typeInfo, hq, hz, hcs]
    simp only [execOp, ho, hx, Instr.storeAt, Instr.sureAddr, Sem.run_bind, Sem.run_pure, Result.andThen_ok, hvar]
theorem own_cap (hM : Mem B w0 L w) {k m c e size : Nat} {A : Option Addr} {xs : List Value} (h : look k L = some (.own (.slice A m c) e size m xs)) : m ≤ c := by
  have ho : w.ownsRow B e size (.slice A m c) m xs := hM.ok k _ h
  rcases ho.2 with ⟨h0, _⟩ | ⟨g, cap, cur, hv, _, _, hle, _⟩
  · injection h0 with _ h1 h2
    omega
  · injection hv with _ _ h2
    omega
theorem flat2_rep (m : Nat) : flat2 (List.replicate m (0, 0)) = (List.replicate m [Value.int .i64 0, Value.int .i64 0]).flatten := by
  induction m with
  | zero => rfl
  | succ m ih => rw [List.replicate_succ, List.replicate_succ, List.flatten_cons, ← ih]; simp [flat2]
end
end Go.Proofs.Ytogeficooemngaa
