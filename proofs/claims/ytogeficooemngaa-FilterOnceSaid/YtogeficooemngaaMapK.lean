/-
  A map of the call's own, keyed by two integers: makeMap, lookup, mapEntry, entryStore.
-/
import Derived.Test.YtogeficooemngaaEng
import Derived.ChangeKeysEq
namespace Go.Proofs.Ytogeficooemngaa
open Go.RowKit
set_option linter.unusedVariables false
set_option linter.unusedSimpArgs false
abbrev ME := (Int × Int) × Int
def mEnt (i : Nat) (p : ME) : MapEntry := { key := .agg #[.int .i64 p.1.1, .int .i64 p.1.2], val := .int .i64 p.2, born := i }
def mEs : Nat → List ME → List MapEntry
  | _, [] => []
  | i, p :: r => mEnt i p :: mEs (i + 1) r
def mapO (l : List ME) : Obj := .map (mEs 0 l).toArray l.length
theorem mEs_len : ∀ (l : List ME) (i : Nat), (mEs i l).length = l.length
  | [], _ => rfl
  | _ :: r, i => by simp [mEs, mEs_len r]
theorem mEs_app : ∀ (l r : List ME) (i : Nat), mEs i (l ++ r) = mEs i l ++ mEs (i + l.length) r
  | [], r, i => rfl
  | p :: l, r, i => by
    simp only [List.cons_append, mEs, mEs_app l r, List.length_cons]
    rw [show i + 1 + l.length = i + (l.length + 1) by omega]
/-- What the program's types give: keys of two integers, elements of one. -/
structure MapTy (P : Program) (T K E : TypeId) : Prop where
  ty : P.underlying T = some (.map K E)
  ka : ∃ e, P.underlying K = some (.array 2 e)
  ck : ∀ (b : Bool) (x y : Int) (w : World), (Instr.checkKey b 10000 K (.agg #[.int .i64 x, .int .i64 y])).run P w = .ok () w
  eq : ∀ (x y u v : Int) (w : World), (Op.equal K (.agg #[.int .i64 x, .int .i64 y]) (.agg #[.int .i64 u, .int .i64 v])).run P w = .ok (decide (x = u ∧ y = v)) w
  zero : ∀ w : World, (zeroValue E).run P w = .ok (.int .i64 0) w
section
variable {P : Program} {T K E : TypeId}
theorem find_none (H : MapTy P T K E) {x y : Int} {w : World} : ∀ (l : List ME) (i j : Nat), (∀ p ∈ l, ¬ (x = p.1.1 ∧ y = p.1.2)) → (Instr.findAsking K (.agg #[.int .i64 x, .int .i64 y]) (mEs j l) i).run P w = .ok none w
  | [], i, j, _ => rfl
  | p :: r, i, j, h => by
    have h0 := h p (List.mem_cons_self ..)
    simp only [mEs, Instr.findAsking, mEnt, Sem.run_bind, H.eq, Result.andThen_ok, decide_eq_false h0, Bool.false_eq_true, if_false]
    exact find_none H r (i + 1) (j + 1) fun q hq => h q (List.mem_cons_of_mem _ hq)
theorem find_last (H : MapTy P T K E) {x y v : Int} {w : World} : ∀ (l : List ME) (i j : Nat), (∀ p ∈ l, ¬ (x = p.1.1 ∧ y = p.1.2)) → (Instr.findAsking K (.agg #[.int .i64 x, .int .i64 y]) (mEs j (l ++ [((x, y), v)])) i).run P w = .ok (some (i + l.length, .int .i64 v)) w
  | [], i, j, _ => by
    simp only [List.nil_append, mEs, Instr.findAsking, mEnt, Sem.run_bind, H.eq, Result.andThen_ok]
    simp
  | p :: r, i, j, h => by
    have h0 := h p (List.mem_cons_self ..)
    simp only [List.cons_append, mEs, Instr.findAsking, mEnt, Sem.run_bind, H.eq, Result.andThen_ok, decide_eq_false h0, Bool.false_eq_true, if_false]
    rw [find_last H r (i + 1) (j + 1) fun q hq => h q (List.mem_cons_of_mem _ hq), List.length_cons, show i + 1 + r.length = i + (r.length + 1) by omega]
theorem findNow_arr {e : TypeId} {x y : Int} : ∀ (p : ME) (r : List MapEntry) (i j : Nat), Instr.findNow (.array 2 e) (.agg #[.int .i64 x, .int .i64 y]) (mEnt j p :: r) i = none := fun p r i j => rfl
theorem fk_none (H : MapTy P T K E) {x y : Int} {w : World} (l : List ME) (h : ∀ p ∈ l, ¬ (x = p.1.1 ∧ y = p.1.2)) : (Instr.findKey K (.agg #[.int .i64 x, .int .i64 y]) (mEs 0 l)).run P w = .ok none w := by
  obtain ⟨e, he⟩ := H.ka
  cases l with
  | nil => simp [Instr.findKey, run_underlying he, mEs, Instr.findNow]
  | cons p r =>
    have := find_none H (w := w) (p :: r) 0 0 h
    simp only [Instr.findKey, Sem.run_bind, run_underlying he, Result.andThen_ok]
    rw [show mEs 0 (p :: r) = mEnt 0 p :: mEs 1 r from rfl, findNow_arr]
    exact this
theorem fk_last (H : MapTy P T K E) {x y v : Int} {w : World} (l : List ME) (h : ∀ p ∈ l, ¬ (x = p.1.1 ∧ y = p.1.2)) : (Instr.findKey K (.agg #[.int .i64 x, .int .i64 y]) (mEs 0 (l ++ [((x, y), v)]))).run P w = .ok (some (l.length, .int .i64 v)) w := by
  obtain ⟨e, he⟩ := H.ka
  have := find_last H (v := v) (w := w) l 0 0 h
  rw [Nat.zero_add] at this
  simp only [Instr.findKey, Sem.run_bind, run_underlying he, Result.andThen_ok]
  obtain ⟨p, r, hp⟩ : ∃ p r, l ++ [((x, y), v)] = p :: r := by cases l <;> simp
  rw [hp] at this ⊢
  rw [show mEs 0 (p :: r) = mEnt 0 p :: mEs 1 r from rfl, findNow_arr]
  exact this
end
section
variable {P : Program} {T K E : TypeId} {n B : Nat} {F : List (Nat × Option Value)} {L : List (Nat × Option Ent)} {a : Act} {w w0 : World} {o : Oper} {ops : Array Oper} {Q : Exit → Act → World → Prop} {KK : Act → World → Prop} {C : World → Prop}
theorem rgo {b : Nat} {es : Array MapEntry} {c : Nat} (hb : w.heap[b]? = some (.map es c)) : (getObj b).run P w = .ok (.map es c) w := by simp [getObj, Sem.run, hb]
theorem yld_look0 (H : MapTy P T K E) (i : Nat) {b : Nat} {l : List ME} {x y : Int} {m k : Operand} (hF : Fr n F a) (ho : o.op = .lookup T m k false) (hk : known F o = true) (hm : evF F m = .map (some b)) (hx : evF F k = .agg #[.int .i64 x, .int .i64 y]) (hi : look i L = some (.obj b (mapO l))) (h : ∀ p ∈ l, ¬ (x = p.1.1 ∧ y = p.1.2)) : Yld P o a (Mem B w0 L) (.int .i64 0) := by
  intro w hM
  have hb : w.heap[b]? = some (mapO l) := (hM.ok i _ hi).1
  unfold Oper.quietAt
  rw [hF.exec hk]
  have hr : (Instr.lookup T (.map (some b)) (.agg #[.int .i64 x, .int .i64 y]) false).run P w = .ok (.int .i64 0) w := by
    simp only [Instr.lookup, Sem.run_bind, run_underlying H.ty, Result.andThen_ok, rgo (show w.heap[b]? = some (.map _ _) from hb), Sem.run_pure, H.ck, fk_none H l h, H.zero]
    rfl
  simp [execOp, ho, hm, hx, hr, Oper.quietUpon]
theorem yld_look1 (H : MapTy P T K E) (i : Nat) {b : Nat} {l : List ME} {x y v : Int} {m k : Operand} (hF : Fr n F a) (ho : o.op = .lookup T m k false) (hk : known F o = true) (hm : evF F m = .map (some b)) (hx : evF F k = .agg #[.int .i64 x, .int .i64 y]) (hi : look i L = some (.obj b (mapO (l ++ [((x, y), v)])))) (h : ∀ p ∈ l, ¬ (x = p.1.1 ∧ y = p.1.2)) : Yld P o a (Mem B w0 L) (.int .i64 v) := by
  intro w hM
  have hb : w.heap[b]? = some (mapO (l ++ [((x, y), v)])) := (hM.ok i _ hi).1
  unfold Oper.quietAt
  rw [hF.exec hk]
  have hr : (Instr.lookup T (.map (some b)) (.agg #[.int .i64 x, .int .i64 y]) false).run P w = .ok (.int .i64 v) w := by
    simp only [Instr.lookup, Sem.run_bind, run_underlying H.ty, Result.andThen_ok, rgo (show w.heap[b]? = some (.map _ _) from hb), Sem.run_pure, H.ck, fk_last H l h]
    rfl
  simp [execOp, ho, hm, hx, hr, Oper.quietUpon]
/-- makeMap -/
theorem sMapN (d k : Nat) {T : TypeId} (hF : Fr n F a) (hM : Mem B w0 L w) (h : okO n ops F o d = true) (ho : o.op = .makeMap T none)
    (kk : ∀ b a' w', Fr n ((d, some (.map (some b))) :: F) a' → Mem B w0 ((k, some (.obj b (mapO []))) :: L) w' → KK a' w') : One P ops Q o KK a w := by
  obtain ⟨h1, h2, h3, h4⟩ := okO_spec h
  refine sW hF h3 h1 h2 h4 (v := .map (some w.heap.size)) (w' := w.alloc (mapO [])) ?_ fun a' ha => kk w.heap.size a' _ ha (hM.fresh (w' := w.alloc (mapO [])) ⟨rfl, rfl, rfl, by simp, fun k hk => heap_alloc_old w _ hk⟩ k (e := .obj w.heap.size (mapO [])) ⟨heap_alloc_new w _, hM.lo⟩ fun b hb => ?_)
  · simp [execOp, ho, Instr.makeMap, mapO, mEs]
  · simp only [Ent.blk, Option.some.injEq] at hb
    omega
theorem rso {b : Nat} {es : Array MapEntry} {c : Nat} (o' : Obj) (hb : w.heap[b]? = some (.map es c)) : (setObj b o').run P w = .ok () { w with heap := w.heap.setIfInBounds b o' } := by simp [setObj, Sem.run, hb]
theorem grown_set {w : World} {b : Nat} {x o' : Obj} (hb : w.heap[b]? = some x) : w.grownBy { w with heap := w.heap.setIfInBounds b o' } (some b) ∧ ({ w with heap := w.heap.setIfInBounds b o' } : World).heap[b]? = some o' := by
  have hlt := (Array.getElem?_eq_some_iff.1 hb).1
  refine ⟨⟨rfl, rfl, rfl, by simp, fun k hk hne => ?_⟩, by simp [hlt]⟩
  have : b ≠ k := fun e => hne (by rw [e])
  simp [this]
theorem mapO_push (l : List ME) (p : ME) : Obj.map ((mEs 0 l).toArray.push (mEnt l.length p)) (l.length + 1) = mapO (l ++ [p]) := by
  unfold mapO
  rw [mEs_app]
  simp [mEs]
/-- mapEntry at a key that is not there -/
theorem sMapE (d i : Nat) (H : MapTy P T K E) {b : Nat} {l : List ME} {x y : Int} {m k : Operand} (hF : Fr n F a) (hM : Mem B w0 L w) (h : okO n ops F o d = true) (ho : o.op = .mapEntry T m k) (hm : evF F m = .map (some b)) (hx : evF F k = .agg #[.int .i64 x, .int .i64 y]) (hi : look i L = some (.obj b (mapO l))) (hn : ∀ p ∈ l, ¬ (x = p.1.1 ∧ y = p.1.2))
    (kk : ∀ a' w', Fr n ((d, some (.tuple #[.int .i64 0, .int .i64 (l.length : Int)])) :: F) a' → Mem B w0 ((i, some (.obj b (mapO (l ++ [((x, y), 0)])))) :: L) w' → KK a' w') : One P ops Q o KK a w := by
  obtain ⟨h1, h2, h3, h4⟩ := okO_spec h
  have hb : w.heap[b]? = some (mapO l) := (hM.ok i _ hi).1
  have hB : B ≤ b := (hM.ok i _ hi).2
  obtain ⟨hg, hnew⟩ := grown_set (o' := mapO (l ++ [((x, y), 0)])) hb
  refine sW hF h3 h1 h2 h4 (v := .tuple #[.int .i64 0, .int .i64 (l.length : Int)]) (w' := { w with heap := w.heap.setIfInBounds b (mapO (l ++ [((x, y), 0)])) }) ?_ fun a' ha => kk a' _ ha (hM.turn hi rfl hg ⟨hnew, hB⟩ fun _ hb => .inl hb)
  have hr : (Instr.mapEntry T (.map (some b)) (.agg #[.int .i64 x, .int .i64 y])).run P w = .ok (.tuple #[.int .i64 0, .int .i64 (l.length : Int)]) { w with heap := w.heap.setIfInBounds b (mapO (l ++ [((x, y), 0)])) } := by
    have hb' : w.heap[b]? = some (.map (mEs 0 l).toArray l.length) := hb
    simp only [Instr.mapEntry, Sem.run_bind, run_underlying H.ty, Result.andThen_ok, rgo hb', H.ck, fk_none H l hn, H.zero]
    rw [show ({ key := .agg #[.int .i64 x, .int .i64 y], val := .int .i64 0, born := l.length } : MapEntry) = mEnt l.length ((x, y), 0) from rfl, mapO_push]
    simp only [Sem.run_bind, rso _ hb', Result.andThen_ok, Sem.run_pure, goInt]
  simp [execOp, ho, hm, hx, hr]
theorem find_born : ∀ (l : List ME) (p : ME) (j : Nat), (mEs j (l ++ [p])).findIdx? (fun e => (e.born : Int) == ((j + l.length : Nat) : Int)) = some l.length
  | [], p, j => by simp [mEs, mEnt, List.findIdx?_cons]
  | q :: l, p, j => by
    have ih := find_born l p (j + 1)
    simp only [List.cons_append, mEs, List.findIdx?_cons, List.length_cons]
    have hne : ((((mEnt j q).born : Int) == ((j + (l.length + 1) : Nat) : Int)) = false) := by
      rw [beq_eq_false_iff_ne]
      simp only [mEnt]
      omega
    rw [hne, show j + (l.length + 1) = j + 1 + l.length by omega, ih]
    rfl
theorem modify_last {α : Type} (f : α → α) (e : α) : ∀ l : List α, (l ++ [e]).modify l.length f = l ++ [f e]
  | [] => rfl
  | x :: l => by simp [modify_last f e l]
/-- entryStore at the last entry -/
theorem sMapS (i : Nat) {b : Nat} {l : List ME} {x y u v : Int} {m k z : Operand} (hF : Fr n F a) (hM : Mem B w0 L w) (hg : wantF ops F o = some true) (hd : o.dst = none) (ho : o.op = .entryStore T m k z) (hk : known F o = true) (hm : evF F m = .map (some b)) (hx : evF F k = .int .i64 (l.length : Int)) (hz : evF F z = .int .i64 v) (hi : look i L = some (.obj b (mapO (l ++ [((x, y), u)]))))
    (kk : ∀ w', Mem B w0 ((i, some (.obj b (mapO (l ++ [((x, y), v)])))) :: L) w' → KK a w') : One P ops Q o KK a w := by
  have hb : w.heap[b]? = some (mapO (l ++ [((x, y), u)])) := (hM.ok i _ hi).1
  have hB : B ≤ b := (hM.ok i _ hi).2
  obtain ⟨hgr, hnew⟩ := grown_set (o' := mapO (l ++ [((x, y), v)])) hb
  refine sW0 hF hg hd hk (w' := { w with heap := w.heap.setIfInBounds b (mapO (l ++ [((x, y), v)])) }) ?_ (kk _ (hM.turn hi rfl hgr ⟨hnew, hB⟩ fun _ hb => .inl hb))
  have hfind : (mEs 0 (l ++ [((x, y), u)])).toArray.findIdx? (fun e => (e.born : Int) == (l.length : Int)) = some l.length := by
    have := find_born l ((x, y), u) 0
    rw [Nat.zero_add] at this
    rw [List.findIdx?_toArray]
    exact this
  have hmod : (Obj.map ((mEs 0 (l ++ [((x, y), u)])).toArray.modify l.length fun e => { e with val := .int .i64 v }) (l ++ [((x, y), u)]).length) = mapO (l ++ [((x, y), v)]) := by
    unfold mapO
    congr 1
    · apply Array.ext'
      rw [Array.toList_modify, List.toList_toArray, List.toList_toArray, mEs_app, mEs_app]
      have := modify_last (fun e : MapEntry => { e with val := .int .i64 v }) (mEnt (0 + l.length) ((x, y), u)) (mEs 0 l)
      rw [mEs_len] at this
      exact this
    · simp
  have hr : (Instr.entryStore T (.map (some b)) (.int .i64 (l.length : Int)) (.int .i64 v)).run P w = .ok () { w with heap := w.heap.setIfInBounds b (mapO (l ++ [((x, y), v)])) } := by
    have hb' : w.heap[b]? = some (.map (mEs 0 (l ++ [((x, y), u)])).toArray (l ++ [((x, y), u)]).length) := hb
    simp only [Instr.entryStore, Sem.run_bind, rgo hb', Result.andThen_ok, asInt, asIntOf, Sem.run_pure, hfind, hmod, rso _ hb']
  simp only [execOp, ho, hm, hx, hz, Sem.run_bind, hr, Result.andThen_ok, Sem.run_pure]
end
end Go.Proofs.Ytogeficooemngaa
