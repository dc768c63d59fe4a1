/-
  The walks of shape.run and of its function (an iterator with a state of its own).
-/
import Derived.Test.YtaekcgapbkmepaaRangeSt
import Derived.Test.YtaekcgapbkmepaaShapeB
namespace Go.Proofs.Ytaekcgapbkmepaa
open Go.RowKit Go.Shelf
set_option linter.unusedVariables false
set_option linter.unusedSimpArgs false

attribute [local go_sem] Oper.semAt_some

/-- What a round keeps: what lies below, and every block of cells of other types than ints, but one. -/
structure KT (n₀ Bt : Nat) (W W' : World) : Prop where
  bel : Below n₀ W W'
  same : ∀ (k : Nat) (cs : Array Value) (t : TypeId), k ≠ Bt → t ≠ 3 → W.heap[k]? = some (.cells cs t (0, 0)) → W'.heap[k]? = some (.cells cs t (0, 0))
theorem KT.refl (n₀ Bt : Nat) (W : World) : KT n₀ Bt W W := ⟨Below.refl _ _, fun _ _ _ _ _ h => h⟩
theorem KT.trans {n₀ Bt : Nat} {X Y Z : World} (h : KT n₀ Bt X Y) (k : KT n₀ Bt Y Z) : KT n₀ Bt X Z := ⟨h.bel.trans k.bel, fun i cs t h1 h2 hi => k.same i cs t h1 h2 (h.same i cs t h1 h2 hi)⟩
theorem KT.below {n₀ Bt : Nat} {W W' : World} (h : Below W.heap.size W W') (hn : n₀ ≤ W.heap.size) : KT n₀ Bt W W' := ⟨h.mono hn, fun k cs t _ _ hk => (h.block k (Array.getElem?_eq_some_iff.1 hk).1).trans hk⟩
theorem KT.alloc {n₀ Bt : Nat} (W : World) (o : Obj) (hn : n₀ ≤ W.heap.size) : KT n₀ Bt W (W.alloc o) := KT.below ((Below.refl _ W).alloc (Nat.le_refl _) o) hn
theorem KT.put {n₀ Bt : Nat} {w : World} (hn : n₀ ≤ w.heap.size) (W : World) (l : Nat) (o o' : Obj) (hl : w.heap.size ≤ l) (h : W.heap[l]? = some o) (hc : o.isCells = false) (hw : o.isWalk = false) : KT n₀ Bt W (W.putObj l o') := by
  refine ⟨belowK_b (w := w) hn W l o o' hl h hc hw, fun k cs t _ _ hk => ?_⟩
  by_cases e : k = l
  · subst e; rw [h] at hk; cases hk; cases hc
  · rw [World.putObj_heap_other e]; exact hk
/-- The iterator's stores into its state. -/
def StS (Bs : Nat) (W W' : World) : Prop := W.grownBy W' (some Bs) ∧ ∃ x y : Value, W'.heap[Bs]? = some (.cells #[x, y] 29 (0, 0))
theorem cell_at {W : World} {B j : Nat} {cs : Array Value} {t : TypeId} {v : Value} (h : W.heap[B]? = some (.cells cs t (0, 0))) (hv : cs[j]? = some v) : W.cell? ⟨B, j, none⟩ = some v := by
  simp [World.cell?, h, hv]
theorem frozen_at {W : World} {B j : Nat} {cs : Array Value} {t : TypeId} (h : W.heap[B]? = some (.cells cs t (0, 0))) : W.frozen? ⟨B, j, none⟩ = false := by
  simp [World.frozen?, h]

theorem set2_at {W : World} {B : Nat} {x y u v : Value} {t : TypeId} (h : W.heap[B]? = some (.cells #[x, y] t (0, 0))) : ((W.setCell ⟨B, 0, none⟩ u).setCell ⟨B, 1, none⟩ v).heap[B]? = some (.cells #[u, v] t (0, 0)) := Blk.set_ (Blk.set_ (show Blk W B t #[x, y] from h) 0 u) 1 v
theorem grown2_at (W : World) (B : Nat) (u v : Value) : W.grownBy ((W.setCell ⟨B, 0, none⟩ u).setCell ⟨B, 1, none⟩ v) (some B) := grown_setCell (grownBy_setCell' W B u) 1 v

set_option maxRecDepth 100000 in
set_option maxHeartbeats 8000000 in
theorem run1_in (n : Nat) (hn : 1 ≤ n) (l Bl Bb Bs Bt n₀ : Nat) (A : Option Addr) (cap : Nat) (b r : Int) (tr : List (Int × Int)) (hb : bkE b r = 0) (ht : trE tr = 0) (hf : fitB b tr = true)
    (hne : Bl ≠ Bt ∧ Bb ≠ Bt ∧ Bs ≠ Bt ∧ Bl ≠ Bs ∧ Bb ≠ Bs) (hlo : n₀ ≤ Bl ∧ n₀ ≤ Bb ∧ n₀ ≤ Bs ∧ n₀ ≤ Bt) (J Jx : List Int → World → Prop) (W : World) (hsz : Bs < W.heap.size ∧ Bt < W.heap.size) (hJa : AbidesFrom W.heap.size J) (hJs : ∀ s A B, J s A → StS Bs A B → J s B)
    (hY : ∀ pre x W, J pre W → pre.length < tr.length → YieldAt Fence.wide (n - 1) Try.prog l #[.int .i64 x] W fun e W' =>
      (e = .returned (.bool true) ∧ J (pre ++ [x]) W' ∧ KT n₀ Bt W W') ∨ (e = .returned (.bool false) ∧ Jx (pre ++ [x]) W'))
    (hBl : W.heap[Bl]? = some (.cells #[.slice A tr.length cap] 45 (0, 0))) (hBb : W.heap[Bb]? = some (.cells #[.int .i64 b, .int .i64 r] 23 (0, 0))) (hBs : W.heap[Bs]? = some (.cells #[.int .i64 0, .int .i64 (b * 1048576)] 29 (0, 0))) (hc : Arr2 W n₀ A tr) (h0 : J [] W) :
    CallsIn Fence.wide n Try.prog 40 #[.func (.yield l) #[] #[], .pointer (some ⟨Bl, 0, none⟩), .pointer (some ⟨Bb, 0, none⟩), .pointer (some ⟨Bs, 0, none⟩)] W fun e W' => (∃ v, e = .returned v) ∧
      ((∃ ys, (ys = shUp b r tr tr.length ∨ ∃ k, k < tr.length ∧ ys = shUp b r tr (k + 1) ∧ 1099511627776 < (shN b r tr (k + 1)).1) ∧ J ys W') ∨ (∃ pre, (∃ k, k < tr.length ∧ pre = shUp b r tr (k + 1)) ∧ Jx pre W')) := by
  have htl := (trE_ok ht).1
  obtain ⟨len, hlen⟩ : ∃ n, tr.length = n := ⟨_, rfl⟩
  have HLEN := hide hlen
  rw [hlen] at hBl hY htl ⊢
  clear hlen
  have cl := cell_at (j := 0) hBl rfl
  refine callsIn_of_wp Try.func40 rfl trivial ?_ rfl
  simp only [Try.ntmps40, List.size_toArray, List.length_cons, List.length_nil, Nat.reduceAdd, Nat.reduceSub, Array.replicate_succ, Array.replicate_zero, List.push_toArray, List.append_toArray, List.nil_append, List.cons_append]
  gi_wp2
  gi_loopw [11] (fun i wr => ∃ k : Nat, k ≤ len ∧ i = .int .i64 k ∧ J (shUp b r tr k) wr ∧ (∀ j, j < k → (shN b r tr (j + 1)).1 ≤ 1099511627776) ∧ wr.heap[Bs]? = some (.cells #[.int .i64 (shN b r tr k).1, .int .i64 (shN b r tr k).2] 29 (0, 0)) ∧ wr.heap[Bb]? = some (.cells #[.int .i64 b, .int .i64 r] 23 (0, 0)) ∧ Below n₀ W wr)
    (fun i _ => len - (intOf i).toNat)
  case atStart => exact ⟨0, Nat.zero_le _, rfl, h0, fun j hj => by omega, hBs, hBb, Below.refl _ _⟩
  case round =>
    obtain ⟨wo, rfl⟩ : ∃ wo : World, wo = wr := ⟨_, rfl⟩
    obtain ⟨k, hk, rfl, hJk, hTk, hS, hB, hW⟩ := hrel
    have hws := hW.size
    by_cases hlt : k < len
    · have hlt' : k < tr.length := by rw [HLEN.out]; exact hlt
      obtain ⟨bk, off, rfl, hbk, g1, g2⟩ := hc k _ (pr_some hlt')
      have g1' := (hW.cell (p := ⟨bk, off + k * 2, none⟩) hbk).trans g1
      have g2' := (hW.cell (p := ⟨bk, off + k * 2 + 1, none⟩) hbk).trans g2
      clear g1 g2
      have t := tr_all ht k hlt'
      have hsk := shN_ok hb ht hf k (Nat.le_of_lt hlt') hTk
      have hfit := fitB_get hf hlt'
      have hel := el_bd (at_ := (pr tr k).1) (s := (pr tr k).2) hsk (by omega) (by omega)
      obtain ⟨la, hla⟩ : ∃ z, (shN b r tr k).1 = z := ⟨_, rfl⟩
      obtain ⟨lv, hlv⟩ : ∃ z, (shN b r tr k).2 = z := ⟨_, rfl⟩
      have hsn : shN b r tr (k + 1) = (elT b r la lv (pr tr k).1 (pr tr k).2, elL b r la lv (pr tr k).1 (pr tr k).2) := by rw [← hla, ← hlv]; rfl
      rw [hla, hlv] at hsk hel hS
      have HN := hide (And.intro hla (And.intro hlv hsn))
      clear hla hlv hsn
      have hX := KT.alloc (n₀ := n₀) (Bt := Bt) wo (.cells #[.int .i64 (pr tr k).1, .int .i64 (pr tr k).2] 31) (by omega)
      have hbX := hX.same _ _ _ hne.2.1 (by decide) hB
      have hsX := hX.same _ _ _ hne.2.2.1 (by decide) hS
      have c1 := cell_at (j := 0) hbX rfl
      have c2 := cell_at (j := 1) hbX rfl
      have c3 := cell_at (j := 0) hsX rfl
      have c4 := cell_at (j := 1) hsX rfl
      gi_wp2
      refine ⟨trivial, ?_⟩
      refine (callsIn_wide.2 (eligible_w b r la lv (pr tr k).1 (pr tr k).2 _ hsk (by omega) (by omega))).mono ?_
      rintro e W2 ⟨rfl, hb2⟩
      obtain ⟨tt, htt⟩ : ∃ z, elT b r la lv (pr tr k).1 (pr tr k).2 = z := ⟨_, rfl⟩
      obtain ⟨tl, htl2⟩ : ∃ z, elL b r la lv (pr tr k).1 (pr tr k).2 = z := ⟨_, rfl⟩
      rw [htt, htl2]
      have HT := hide (And.intro htt htl2)
      have hj2 : J (shUp b r tr k) (W2.alloc (.cells #[.int .i64 tt, .int .i64 tl] 29)) := by
        refine abides_alloc hJa _ ?_
        exact hJa _ _ _ none (abides_alloc hJa _ hJk) ⟨hb2.os, hb2.tape, hb2.output, hb2.size, fun q hq _ => hb2.block q hq⟩ (fun _ e => by cases e)
      obtain ⟨fn, tmps, assign, body, hy, hR⟩ := hY (shUp b r tr k) tt _ hj2 (by rw [shUp_length]; exact hlt)
      gi_wp2
      refine hR.mono ?_
      rintro e W3 (⟨rfl, hJ3, hk3⟩ | ⟨rfl, hJx3⟩)
      · by_cases hT : 1099511627776 < tt
        · gi_wp2
          refine bodyPost_ret (results_none rfl _ _ _) rfl ?_
          exact ⟨⟨_, rfl⟩, .inl ⟨_, .inr ⟨k, hlt, by rw [shUp_succ, HN.out.2.2, HT.out.1], by rw [HN.out.2.2]; simp only; rw [HT.out.1]; exact hT⟩, hJ3⟩⟩
        · have hz2 := hb2.size
          rw [World.size_alloc] at hz2
          have n1 := hk3.same W2.heap.size _ _ (by omega) (by decide) (World.alloc_heap_new W2 _)
          have d1 := cell_at (j := 0) n1 rfl
          have d2 := cell_at (j := 1) n1 rfl
          have hA3 := hX.trans ((KT.below (Bt := Bt) hb2 (by rw [World.size_alloc]; omega)).trans ((KT.alloc (Bt := Bt) W2 (.cells #[.int .i64 tt, .int .i64 tl] 29) (by omega)).trans hk3))
          have n2 := hA3.same _ _ _ hne.2.2.1 (by decide) hS
          have d3 := frozen_at (j := 0) n2
          have d4 := frozen_at (j := 1) n2
          have d5 := cell_at (j := 0) n2 rfl
          have d6 := cell_at (j := 1) n2 rfl
          gi_wp2
          have hst : StS Bs W3 ((W3.setCell ⟨Bs, 0, none⟩ (.int .i64 tt)).setCell ⟨Bs, 1, none⟩ (.int .i64 tl)) := ⟨grown2_at W3 Bs _ _, _, _, set2_at n2⟩
          refine ⟨⟨k + 1, by omega, by simp, ?_, ?_, ?_, ?_, ?_⟩, by simp [intOf]; omega⟩
          · rw [shUp_succ, HN.out.2.2]
            simp only
            rw [HT.out.1]
            exact hJs _ _ _ hJ3 hst
          · intro j hj
            by_cases e : j = k
            · subst e; rw [HN.out.2.2]; simp only; rw [HT.out.1]; exact hT
            · exact hTk j (by omega)
          · rw [set2_at n2, HN.out.2.2]
            simp only
            rw [HT.out.1, HT.out.2]
          · exact (hst.1.block Bb (Array.getElem?_eq_some_iff.1 (hA3.same _ _ _ hne.2.1 (by decide) hB)).1 (fun e => hne.2.2.2.2 (by injection e))).trans (hA3.same _ _ _ hne.2.1 (by decide) hB)
          · exact ((hW.trans hA3.bel).setCell (p := ⟨Bs, 0, none⟩) hlo.2.2.1 _).setCell (p := ⟨Bs, 1, none⟩) hlo.2.2.1 _
      · gi_wp2
        refine bodyPost_ret (results_none rfl _ _ _) rfl ?_
        exact ⟨⟨_, rfl⟩, .inr ⟨_, ⟨k, hlt, by rw [shUp_succ, HN.out.2.2, HT.out.1]⟩, hJx3⟩⟩
    · obtain rfl : k = len := by omega
      gi_wp2
      go_end0
      exact ⟨⟨_, rfl⟩, .inl ⟨_, .inl rfl, hJk⟩⟩
end Go.Proofs.Ytaekcgapbkmepaa
