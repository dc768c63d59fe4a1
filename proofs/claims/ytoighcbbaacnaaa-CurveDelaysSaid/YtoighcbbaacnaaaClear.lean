/-
  The walks of curve.distances, of its function, and of curve.clearing (a range over a function).
-/
import Derived.RangeFuncBox
import Derived.RangeFuncLeaves
import Derived.RangeFuncNested
import Derived.Shelf.Abstract
import Derived.WalkKit
import Derived.OwnWalkIn
import Derived.TacticsInMore
import Derived.LoopNIn
import Derived.LoopIn
import Derived.Test.YtoighcbbaacnaaaFirst
import Derived.Test.YtoighcbbaacnaaaCurveA
namespace Go.Proofs.Ytoighcbbaacnaaa
open Go.RowKit Go.Shelf
set_option linter.unusedVariables false
set_option linter.unusedSimpArgs false

attribute [local go_sem] Oper.semAt_some

/-- What a round keeps: every block of cells but two. -/
structure KX (b1 b2 : Nat) (W W' : World) : Prop where
  size : W.heap.size ≤ W'.heap.size
  same : ∀ (k : Nat) (o : Obj), k ≠ b1 → k ≠ b2 → W.heap[k]? = some o → o.isCells = true → W'.heap[k]? = some o
theorem KX.refl (b1 b2 : Nat) (W : World) : KX b1 b2 W W := ⟨Nat.le_refl _, fun _ _ _ _ h _ => h⟩
theorem KX.trans {b1 b2 : Nat} {X Y Z : World} (h : KX b1 b2 X Y) (k : KX b1 b2 Y Z) : KX b1 b2 X Z := ⟨Nat.le_trans h.size k.size, fun i o h1 h2 hi ho => k.same i o h1 h2 (h.same i o h1 h2 hi ho) ho⟩
theorem KX.below {b1 b2 : Nat} {W W' : World} (h : Below W.heap.size W W') : KX b1 b2 W W' := ⟨h.size, fun k o _ _ hk _ => (h.block k (Array.getElem?_eq_some_iff.1 hk).1).trans hk⟩
theorem KX.alloc {b1 b2 : Nat} (W : World) (o : Obj) : KX b1 b2 W (W.alloc o) := ⟨by rw [World.size_alloc]; omega, fun k o' _ _ hk _ => (Below.heap_alloc W o k (Array.getElem?_eq_some_iff.1 hk).1).trans hk⟩
theorem KX.put {b1 b2 : Nat} {w : World} (W : World) (l : Nat) (o o' : Obj) (_ : w.heap.size ≤ l) (h : W.heap[l]? = some o) (hc : o.isCells = false) (_ : o.isWalk = false) : KX b1 b2 W (W.putObj l o') := by
  refine ⟨by simp, fun k q _ _ hk hq => ?_⟩
  by_cases e : k = l
  · subst e; rw [h] at hk; cases hk; rw [hc] at hq; cases hq
  · rw [World.putObj_heap_other e]; exact hk
theorem KX.setCell {b1 b2 : Nat} (W : World) (p : Addr) (v : Value) (hp : p.block = b1 ∨ p.block = b2) : KX b1 b2 W (W.setCell p v) :=
  ⟨by simp, fun k o h1 h2 hk _ => (Below.heap_setCell W p v k (by omega)).trans hk⟩
theorem KX.cell {b1 b2 : Nat} {W W' : World} (h : KX b1 b2 W W') {p : Addr} {v : Value} (h1 : p.block ≠ b1) (h2 : p.block ≠ b2) (hc : W.cell? p = some v) : W'.cell? p = some v := by
  obtain ⟨o, ho, hq⟩ := cells_of_cell hc
  rw [World.cell?_of_block (w := W) ((h.same p.block o h1 h2 ho hq).trans ho.symm)]
  exact hc
theorem abides_below {β : Type} {B : Nat} {J : β → World → Prop} (h : AbidesFrom B J) {s : β} {W W' : World} (hs : J s W) (hb : Below W.heap.size W W') : J s W' :=
  h s W W' none hs ⟨hb.os, hb.tape, hb.output, hb.size, fun k hk _ => hb.block k hk⟩ (fun _ e => by cases e)

set_option maxRecDepth 100000 in
set_option maxHeartbeats 8000000 in
theorem dist1_in (n : Nat) (hn : 1 ≤ n) (l Bl Br b1 b2 n₀ : Nat) (A : Option Addr) (cap : Nat) (r : Int) (tr : List (Int × Int)) (hr : 1 ≤ r ∧ r ≤ 2097152) (htl : tr.length ≤ 12)
    (htr : ∀ k, k < tr.length → 1 ≤ (pr tr k).1 ∧ (pr tr k).1 ≤ 1048576 ∧ 1 ≤ (pr tr k).2 ∧ (pr tr k).2 ≤ 2097152) (hbb : Bl ≠ b1 ∧ Bl ≠ b2 ∧ Br ≠ b1 ∧ Br ≠ b2) (hn₀ : n₀ ≤ b1 ∧ n₀ ≤ b2)
    (J Jx : List Int → World → Prop) (W : World) (hbs : b1 < W.heap.size ∧ b2 < W.heap.size) (hJa : AbidesFrom W.heap.size J)
    (hY : ∀ pre x W, J pre W → pre.length < 200 → YieldAt Fence.wide (n - 1) Try.prog l #[.int .i64 x] W fun e W' =>
      (e = .returned (.bool true) ∧ J (pre ++ [x]) W' ∧ KX b1 b2 W W') ∨ (e = .returned (.bool false) ∧ Jx (pre ++ [x]) W'))
    (hBl : W.cell? ⟨Bl, 0, none⟩ = some (.slice A tr.length cap)) (hBr : W.cell? ⟨Br, 0, none⟩ = some (.int .i64 r)) (hc : Arr2 W n₀ A tr) (h0 : J [] W) :
    CallsIn Fence.wide n Try.prog 64 #[.func (.yield l) #[] #[], .pointer (some ⟨Bl, 0, none⟩), .pointer (some ⟨Br, 0, none⟩)] W fun e W' => (∃ v, e = .returned v) ∧
      ((∃ ys, ys = dAll r tr tr.length ∧ J ys W') ∨ (∃ pre, True ∧ Jx pre W')) := by
  obtain ⟨len, hlen⟩ : ∃ n, tr.length = n := ⟨_, rfl⟩
  have HLEN := hide hlen
  rw [hlen] at hBl htl htr ⊢
  clear hlen
  have HTR := hide htr
  clear htr
  refine callsIn_of_wp Try.func64 rfl trivial ?_ rfl
  simp only [Try.ntmps64, List.size_toArray, List.length_cons, List.length_nil, Nat.reduceAdd, Nat.reduceSub, Array.replicate_succ, Array.replicate_zero, List.push_toArray, List.append_toArray, List.nil_append, List.cons_append]
  gi_wp2
  gi_loopw [11] (fun i wr => ∃ k : Nat, k ≤ len ∧ i = .int .i64 k ∧ J (dAll r tr k) wr ∧ KX b1 b2 W wr)
    (fun i _ => len - (intOf i).toNat)
  case atStart => exact ⟨0, Nat.zero_le _, rfl, h0, KX.refl _ _ _⟩
  case round =>
    obtain ⟨wo, rfl⟩ : ∃ wo : World, wo = wr := ⟨_, rfl⟩
    obtain ⟨k, hk, rfl, hJs, hnx⟩ := hrel
    have hbl := hnx.cell (p := ⟨Bl, 0, none⟩) hbb.1 hbb.2.1 hBl
    have hbr := hnx.cell (p := ⟨Br, 0, none⟩) hbb.2.2.1 hbb.2.2.2 hBr
    by_cases hlt : k < len
    · have hlt' : k < tr.length := by rw [HLEN.out]; exact hlt
      obtain ⟨bk, off, rfl, hbk, g1, g2⟩ := hc k _ (pr_some hlt')
      have g1' := hnx.cell (p := ⟨bk, off + k * 2, none⟩) (show bk ≠ b1 by omega) (show bk ≠ b2 by omega) g1
      have g2' := hnx.cell (p := ⟨bk, off + k * 2 + 1, none⟩) (show bk ≠ b1 by omega) (show bk ≠ b2 by omega) g2
      clear g1 g2
      have t := HTR.out k hlt
      have hbrA := (KX.alloc (b1 := b1) (b2 := b2) wo (.cells #[.int .i64 (pr tr k).1, .int .i64 (pr tr k).2] 39)).cell (p := ⟨Br, 0, none⟩) hbb.2.2.1 hbb.2.2.2 hbr
      by_cases hf : r < (pr tr k).2
      · gi_wp2
        go_roundw
        case rel => exact ⟨k + 1, by omega, by simp, by rw [dAll_skip hf]; exact abides_alloc hJa _ hJs, hnx.trans (KX.alloc _ _)⟩
        case measure => simp [intOf]; omega
      · have hx0 : (pr tr k).1 * 1048576 ≤ 1125899906842624 * r := by omega
        have hY1 : ∀ W2, Below (wo.alloc (.cells #[.int .i64 (pr tr k).1, .int .i64 (pr tr k).2] 39)).heap.size (wo.alloc (.cells #[.int .i64 (pr tr k).1, .int .i64 (pr tr k).2] 39)) W2 → _ := fun W2 hb2 => hY (dAll r tr k) (cq ((pr tr k).1 * 1048576) r) W2 (abides_below hJa (abides_alloc hJa _ hJs) hb2) (d_len r tr (j := 0) (pr tr k) 0 (by rw [HLEN.out]; exact htl) hlt' (Nat.zero_le _)).1
        gi_wp2
        refine ⟨trivial, ?_⟩
        refine (callsIn_wide.2 (ceil_cq (pr tr k).1 1048576 r _ (by omega) (by omega) (by omega) hx0)).mono ?_
        rintro e W2 ⟨rfl, hb2⟩
        obtain ⟨fn, tmps, assign, body, hy, hR⟩ := hY1 W2 hb2
        gi_wp2
        refine hR.mono ?_
        rintro e W3 (⟨rfl, hJ3, hk3⟩ | ⟨rfl, hJx3⟩)
        · have hA := (KX.alloc (b1 := b1) (b2 := b2) wo (.cells #[.int .i64 (pr tr k).1, .int .i64 (pr tr k).2] 39)).trans ((KX.below hb2).trans hk3)
          have hsz : b1 < wo.heap.size ∧ b2 < wo.heap.size := by have := hnx.size; omega
          have hbl3 := hA.cell (p := ⟨Bl, 0, none⟩) hbb.1 hbb.2.1 hbl
          have hbr3 := hA.cell (p := ⟨Br, 0, none⟩) hbb.2.2.1 hbb.2.2.2 hbr
          have hq1 : W3.cell? ⟨wo.heap.size, 0, none⟩ = some (.int .i64 (pr tr k).1) := ((KX.below hb2).trans hk3).cell (p := ⟨wo.heap.size, 0, none⟩) (show wo.heap.size ≠ b1 by omega) (show wo.heap.size ≠ b2 by omega) (World.cell?_alloc_at _ _ _ _ (by simp))
          have hq2 : W3.cell? ⟨wo.heap.size, 1, none⟩ = some (.int .i64 (pr tr k).2) := ((KX.below hb2).trans hk3).cell (p := ⟨wo.heap.size, 1, none⟩) (show wo.heap.size ≠ b1 by omega) (show wo.heap.size ≠ b2 by omega) (World.cell?_alloc_at _ _ _ _ (by simp))
          have hn3 := hnx.trans hA
          clear hA hy hR hbrA hY1
          gi_wp2
          gi_loopw [28] (fun j wq => ∃ m : Nat, m ≤ len ∧ j = .int .i64 m ∧ J (dAll r tr k ++ cq ((pr tr k).1 * 1048576) r :: dIn r (pr tr k) tr m) wq ∧ KX b1 b2 W3 wq)
            (fun j _ => len - (intOf j).toNat)
          case atStart => exact ⟨0, Nat.zero_le _, rfl, hJ3, KX.refl _ _ _⟩
          case round =>
            obtain ⟨m, hm, rfl, hJm, hnm⟩ := hrel
            have hbl4 := hnm.cell (p := ⟨Bl, 0, none⟩) hbb.1 hbb.2.1 hbl3
            have hbr4 := hnm.cell (p := ⟨Br, 0, none⟩) hbb.2.2.1 hbb.2.2.2 hbr3
            have hq3 := hnm.cell (p := ⟨wo.heap.size, 0, none⟩) (show wo.heap.size ≠ b1 by omega) (show wo.heap.size ≠ b2 by omega) hq1
            have hq4 := hnm.cell (p := ⟨wo.heap.size, 1, none⟩) (show wo.heap.size ≠ b1 by omega) (show wo.heap.size ≠ b2 by omega) hq2
            by_cases hl2 : m < len
            · have hl2' : m < tr.length := by rw [HLEN.out]; exact hl2
              obtain ⟨bk2, off2, e2, hbk2, g3, g4⟩ := hc m _ (pr_some hl2')
              obtain ⟨rfl, rfl⟩ : bk = bk2 ∧ off = off2 := by simpa using e2
              have g3' := (hn3.trans hnm).cell (p := ⟨bk, off + m * 2, none⟩) (show bk ≠ b1 by omega) (show bk ≠ b2 by omega) g3
              have g4' := (hn3.trans hnm).cell (p := ⟨bk, off + m * 2 + 1, none⟩) (show bk ≠ b1 by omega) (show bk ≠ b2 by omega) g4
              clear g3 g4 e2
              have t2 := HTR.out m hl2
              have hA := KX.alloc (b1 := b1) (b2 := b2) wr (.cells #[.int .i64 (pr tr m).1, .int .i64 (pr tr m).2] 39)
              have hbrB := hA.cell (p := ⟨Br, 0, none⟩) hbb.2.2.1 hbb.2.2.2 hbr4
              have hqB := hA.cell (p := ⟨wo.heap.size, 0, none⟩) (show wo.heap.size ≠ b1 by omega) (show wo.heap.size ≠ b2 by omega) hq3
              have hqC := hA.cell (p := ⟨wo.heap.size, 1, none⟩) (show wo.heap.size ≠ b1 by omega) (show wo.heap.size ≠ b2 by omega) hq4
              by_cases hs : (pr tr m).2 ≤ r
              · gi_wp2
                go_roundw
                case rel => exact ⟨m + 1, by omega, by simp, by rw [dIn_skip (.inl hs)]; exact abides_alloc hJa _ hJm, hnm.trans (KX.alloc _ _)⟩
                case measure => simp [intOf]; omega
              · by_cases hs2 : (pr tr k).1 ≤ (pr tr m).1
                · gi_wp2
                  go_roundw
                  case rel => exact ⟨m + 1, by omega, by simp, by rw [dIn_skip (.inr hs2)]; exact abides_alloc hJa _ hJm, hnm.trans (KX.alloc _ _)⟩
                  case measure => simp [intOf]; omega
                · have cb := crs_bd hr t2 t (by omega) (by omega) (by omega)
                  have cc := crs_ce hr t2 t (by omega) (by omega) (by omega)
                  have cp := crs_parts hr t2 t (by omega) (by omega)
                  have hY2 : ∀ W4, Below (wr.alloc (.cells #[.int .i64 (pr tr m).1, .int .i64 (pr tr m).2] 39)).heap.size (wr.alloc (.cells #[.int .i64 (pr tr m).1, .int .i64 (pr tr m).2] 39)) W4 → _ := fun W4 hb4 => hY (dAll r tr k ++ cq ((pr tr k).1 * 1048576) r :: dIn r (pr tr k) tr m) (cq (crs r (pr tr m) (pr tr k) * 1048576) (r * ((pr tr m).2 - (pr tr k).2))) W4 (abides_below hJa (abides_alloc hJa _ hJm) hb4) (d_len r tr (j := m) (pr tr k) _ (by rw [HLEN.out]; exact htl) hlt' (Nat.le_of_lt hl2')).2
                  gi_wp2
                  refine ⟨trivial, ?_⟩
                  refine (callsIn_wide.2 (ceil_cq (crs r (pr tr m) (pr tr k)) 1048576 (r * ((pr tr m).2 - (pr tr k).2)) _ (by omega) (by omega) (by omega) cc)).mono ?_
                  rintro e W4 ⟨rfl, hb4⟩
                  obtain ⟨fn, tmps, assign, body, hy, hR⟩ := hY2 W4 hb4
                  gi_wp2
                  refine hR.mono ?_
                  rintro e W5 (⟨rfl, hJ5, hk5⟩ | ⟨rfl, hJx5⟩)
                  · gi_wp2
                    go_roundw
                    case rel => exact ⟨m + 1, by omega, by simp, by rw [dIn_take (by omega), ← List.cons_append, ← List.append_assoc]; exact hJ5, hnm.trans (hA.trans ((KX.below hb4).trans hk5))⟩
                    case measure => simp [intOf]; omega
                  · gi_wp2
                    refine bodyPost_ret (results_none rfl _ _ _) rfl ?_
                    exact ⟨⟨_, rfl⟩, .inr ⟨_, trivial, hJx5⟩⟩
            · obtain rfl : m = len := by omega
              gi_wp2
              go_roundw
              case rel => exact ⟨k + 1, by omega, by simp, by rw [dAll_take (by omega), HLEN.out]; exact hJm, hn3.trans hnm⟩
              case measure => simp [intOf]; omega
        · gi_wp2
          refine bodyPost_ret (results_none rfl _ _ _) rfl ?_
          exact ⟨⟨_, rfl⟩, .inr ⟨_, trivial, hJx3⟩⟩
    · obtain rfl : k = len := by omega
      gi_wp2
      go_end0
      exact ⟨⟨_, rfl⟩, .inl ⟨_, rfl, hJs⟩⟩

set_option maxHeartbeats 1000000 in
theorem dist_in (n : Nat) (r : Int) (A : Option Addr) (len cap : Nat) (w : World) :
    CallsIn Fence.wide n Try.prog 58 #[.slice A len cap, .int .i64 r] w fun e w' => e = .returned (.func (.func 64) #[] #[.pointer (some ⟨w.heap.size, 0, none⟩), .pointer (some ⟨w.heap.size + 1, 0, none⟩)]) ∧
      w' = (w.alloc (.cells #[.slice A len cap] 35)).alloc (.cells #[.int .i64 r] 3) := by
  refine callsIn_of_wp Try.func58 rfl trivial ?_ rfl
  simp only [Try.ntmps58, List.size_toArray, List.length_cons, List.length_nil, Nat.reduceAdd, Nat.reduceSub, Array.replicate_succ, Array.replicate_zero, List.push_toArray, List.append_toArray, List.nil_append, List.cons_append]
  gi_wp2
  go_ret
  exact ⟨rfl, rfl⟩

theorem dist_stops (n : Nat) (hn : 1 ≤ n) (Bl Br b1 b2 n₀ : Nat) (A : Option Addr) (cap : Nat) (r : Int) (tr : List (Int × Int)) (hr : 1 ≤ r ∧ r ≤ 2097152) (htl : tr.length ≤ 12)
    (htr : ∀ k, k < tr.length → 1 ≤ (pr tr k).1 ∧ (pr tr k).1 ≤ 1048576 ∧ 1 ≤ (pr tr k).2 ∧ (pr tr k).2 ≤ 2097152) (hbb : Bl ≠ b1 ∧ Bl ≠ b2 ∧ Br ≠ b1 ∧ Br ≠ b2) (hn₀ : n₀ ≤ b1 ∧ n₀ ≤ b2) (w : World) (hbs : b1 < w.heap.size ∧ b2 < w.heap.size) (hBb : Bl < w.heap.size ∧ Br < w.heap.size)
    (hBl : w.cell? ⟨Bl, 0, none⟩ = some (.slice A tr.length cap)) (hBr : w.cell? ⟨Br, 0, none⟩ = some (.int .i64 r)) (hc : Arr2 w n₀ A tr) :
    SeqStopsK Fence.wide n Try.prog 64 #[.pointer (some ⟨Bl, 0, none⟩), .pointer (some ⟨Br, 0, none⟩)] (fun x : Int => #[Value.int .i64 x]) (KX b1 b2) (fun ys => ys = dAll r tr tr.length)
      (fun pre => True) 200 w := fun l J Jx W hW hJ _ hY h0 => by
  have hsz := hW.size
  exact dist1_in n hn l Bl Br b1 b2 n₀ A cap r tr hr htl htr hbb hn₀ J Jx W (by omega) hJ hY ((hW.cell (p := ⟨Bl, 0, none⟩) hBb.1).trans hBl) ((hW.cell (p := ⟨Br, 0, none⟩) hBb.2).trans hBr) (hc.below (hW.mono (by omega)) (Nat.le_refl _)) h0

theorem boxed_kept {W W' : World} {row : Option Nat} {B : Nat} {t : TypeId} {v : Value} (h : Boxed W B t v) (hg : W.grownBy W' row) (hr : ∀ r, row = some r → ∃ o : Obj, W.heap[r]? = some o ∧ o.isCells = false) : Boxed W' B t v :=
  h.kept hg (fun e => by obtain ⟨o, ho, hc⟩ := hr B e.symm; rw [show W.heap[B]? = _ from h] at ho; cases ho; cases hc)
set_option maxRecDepth 100000 in
set_option maxHeartbeats 4000000 in
theorem clearing_in (n : Nat) (hn : 3 ≤ n) (r : Int) (A : Option Addr) (tr : List (Int × Int)) (cap : Nat) (hr : 1 ≤ r ∧ r ≤ 2097152) (htl : tr.length ≤ 12)
    (htr : ∀ k, k < tr.length → 1 ≤ (pr tr k).1 ∧ (pr tr k).1 ≤ 1048576 ∧ 1 ≤ (pr tr k).2 ∧ (pr tr k).2 ≤ 2097152) (w : World) (hc : Arr2 w w.heap.size A tr) :
    CallsIn Fence.wide n Try.prog 42 #[.slice A tr.length cap, .int .i64 r] w (Ret w (.tuple #[.int .i64 (clF (dAll r tr tr.length)).1, .bool (clF (dAll r tr tr.length)).2])) := by
  have h1 : 1 ≤ n := by omega
  have HC := hide hc
  have HTR := hide htr
  clear hc htr
  refine callsIn_of_wp_marks Try.func42 rfl trivial ?_ rfl
  simp only [Try.ntmps42, List.size_toArray, List.length_cons, List.length_nil, Nat.reduceAdd, Nat.reduceSub, Array.replicate_succ, Array.replicate_zero, List.push_toArray, List.append_toArray, List.nil_append, List.cons_append]
  gi_wp2
  refine ⟨trivial, ?_⟩
  refine (dist_in (n - 1) _ _ _ _ _).mono ?_
  rintro e w' ⟨rfl, rfl⟩
  gi_wp2
  obtain ⟨W0, hW0⟩ : ∃ W0, (((w.alloc (.cells #[.int .i64 0] 3)).alloc (.cells #[.bool false] 4)).alloc (.cells #[.slice A tr.length cap] 35)).alloc (.cells #[.int .i64 r] 3) = W0 := ⟨_, rfl⟩
  have hsz : W0.heap.size = w.heap.size + 4 := by rw [← hW0]; simp
  have x1 : Boxed W0 w.heap.size 3 (.int .i64 0) := by rw [← hW0]; exact (((Boxed.new w 3 _).alloc _).alloc _).alloc _
  have x2 : Boxed W0 (w.heap.size + 1) 4 (.bool false) := by
    have q := ((Boxed.new (w.alloc (.cells #[.int .i64 0] 3)) 4 (.bool false)).alloc (.cells #[.slice A tr.length cap] 35)).alloc (.cells #[.int .i64 r] 3)
    rw [World.size_alloc, hW0] at q
    exact q
  have x3 : Boxed W0 (w.heap.size + 1 + 1) 35 (.slice A tr.length cap) := by
    have q := (Boxed.new ((w.alloc (.cells #[.int .i64 0] 3)).alloc (.cells #[.bool false] 4)) 35 (.slice A tr.length cap)).alloc (.cells #[.int .i64 r] 3)
    rw [World.size_alloc, World.size_alloc, hW0] at q
    exact q
  have x4 : Boxed W0 (w.heap.size + 1 + 1 + 1) 3 (.int .i64 r) := by
    have q := Boxed.new (((w.alloc (.cells #[.int .i64 0] 3)).alloc (.cells #[.bool false] 4)).alloc (.cells #[.slice A tr.length cap] 35)) 3 (.int .i64 r)
    rw [World.size_alloc, World.size_alloc, World.size_alloc, hW0] at q
    exact q
  have hB0 : Below w.heap.size w W0 := by
    rw [← hW0]
    exact ((((Below.refl _ w).alloc (by simp) _).alloc (by simp) _).alloc (by rw [World.size_alloc, World.size_alloc]; omega) _).alloc (by rw [World.size_alloc, World.size_alloc, World.size_alloc]; omega) _
  rw [hW0]
  clear hW0
  refine wpIn_rangeFunc_ownG rfl h1 (gf := 64) (lb := #[.pointer (some ⟨w.heap.size + 1 + 1, 0, none⟩), .pointer (some ⟨w.heap.size + 1 + 1 + 1, 0, none⟩)]) rfl trivial (enters_of Try.func64 (by kernel_rfl) rfl)
    (dist_stops (n - 1) (by omega) (w.heap.size + 1 + 1) (w.heap.size + 1 + 1 + 1) w.heap.size (w.heap.size + 1) w.heap.size A cap r tr hr htl HTR.out (by omega) (by omega) W0 (by omega) (by omega) x3.cell x4.cell (HC.out.below hB0 (Nat.le_refl _))) (fun h k => h.trans k) (fun W l o o' q1 q2 q3 q4 => KX.put W l o o' q1 q2 q3 q4) (Below.refl _ _) (fun _ => rfl)
    (fun pre W => (Boxed W w.heap.size 3 (.int .i64 (clF pre).1) ∧ Boxed W (w.heap.size + 1) 4 (.bool (clF pre).2)) ∧ Below w.heap.size w W)
    (fun c pre W => False)
    (OwnFrom.and (Own.from (fun s A B row hs hg hr => ⟨boxed_kept hs.1 hg hr, boxed_kept hs.2 hg hr⟩) _) (ownFrom_below (Nat.le_refl _) (by omega)))
    (fun c => fun _ _ _ _ hs _ _ => hs.elim)
    ⟨⟨x1, x2⟩, hB0⟩
    (fun x => { tmps := #[.slice A tr.length cap, .int .i64 r, undef, undef, .int .i64 0, .bool false, .pointer (some ⟨w.heap.size, 0, none⟩), .pointer (some ⟨w.heap.size + 1, 0, none⟩), .int .i64 x, .slice A tr.length cap, .int .i64 r, .func (.func 64) #[] #[.pointer (some ⟨w.heap.size + 1 + 1, 0, none⟩), .pointer (some ⟨w.heap.size + 1 + 1 + 1, 0, none⟩)], .int .i64 x, undef, undef, undef, undef, undef, undef, undef, undef, undef, undef], defers := [] }) ?assign ?body ?done ?stop
  case assign =>
    intro l x W K hK
    gi_wp2
    exact hK
  case body =>
    rintro l pre x W ⟨⟨q1, q2⟩, hB⟩ _
    have set2 : clF (pre ++ [x]) = (x, true) → KeepsFrom W0.heap.size W ((W.setCell ⟨w.heap.size, 0, none⟩ (.int .i64 x)).setCell ⟨w.heap.size + 1, 0, none⟩ (.bool true)) ∧ KX w.heap.size (w.heap.size + 1) W ((W.setCell ⟨w.heap.size, 0, none⟩ (.int .i64 x)).setCell ⟨w.heap.size + 1, 0, none⟩ (.bool true)) ∧
        (Boxed ((W.setCell ⟨w.heap.size, 0, none⟩ (.int .i64 x)).setCell ⟨w.heap.size + 1, 0, none⟩ (.bool true)) w.heap.size 3 (.int .i64 (clF (pre ++ [x])).1) ∧ Boxed ((W.setCell ⟨w.heap.size, 0, none⟩ (.int .i64 x)).setCell ⟨w.heap.size + 1, 0, none⟩ (.bool true)) (w.heap.size + 1) 4 (.bool (clF (pre ++ [x])).2)) ∧ Below w.heap.size w ((W.setCell ⟨w.heap.size, 0, none⟩ (.int .i64 x)).setCell ⟨w.heap.size + 1, 0, none⟩ (.bool true)) := by
      intro e
      rw [e]
      exact ⟨((KeepsOthers.setCell _ _ _).trans (KeepsOthers.setCell _ _ _)).from _, (KX.setCell (b1 := w.heap.size) (b2 := w.heap.size + 1) W ⟨w.heap.size, 0, none⟩ _ (.inl rfl)).trans (KX.setCell (b1 := w.heap.size) (b2 := w.heap.size + 1) _ ⟨w.heap.size + 1, 0, none⟩ _ (.inr rfl)), ⟨(q1.set _).kept (grownBy_setCell' _ _ _) (by simp), (q2.kept (grownBy_setCell' W w.heap.size _) (by simp)).set _⟩, (hB.setCell (p := ⟨w.heap.size, 0, none⟩) (by simp) _).setCell (p := ⟨w.heap.size + 1, 0, none⟩) (by simp) _⟩
    have SET := hide set2
    clear set2
    have hsn := clF_snoc pre x
    have c1 := q1.cell
    have c2 := q2.cell
    have c3 := q1.frozen
    have c4 := q2.frozen
    have c5 := ((q2.kept (grownBy_setCell' W w.heap.size (.int .i64 x)) (by simp)).cell)
    have c6 := ((q2.kept (grownBy_setCell' W w.heap.size (.int .i64 x)) (by simp)).frozen)
    have Q := hide (And.intro q1 q2)
    clear q1 q2
    rcases hs : clF pre with ⟨le, fo⟩
    rw [hs] at hsn c1 c2 c5
    have HS := hide hs
    clear hs
    cases fo with
    | false =>
      have HSN := hide (hsn.trans (show clS (le, false) x = (x, true) from rfl))
      clear hsn
      dsimp only at c1 c2 c5
      gi_wp2
      exact SET.out HSN.out
    | true =>
      dsimp only at c1 c2 c5
      by_cases hx : x < le
      · have HSN := hide (hsn.trans (show clS (le, true) x = (x, true) from if_neg (fun z => z.2 hx)))
        clear hsn
        gi_wp2
        exact SET.out HSN.out
      · have HSN := hide (hsn.trans (show clS (le, true) x = (le, true) from if_pos ⟨rfl, hx⟩))
        clear hsn
        gi_wp2
        refine ⟨KeepsFrom.refl _ _, KX.refl _ _ _, ?_, hB⟩
        have q := Q.out
        rw [HS.out] at q
        rw [HSN.out]
        exact q
  case done =>
    rintro D ys W hD rfl ⟨⟨q1, q2⟩, hB⟩ hK
    have c1 := q1.cell
    have c2 := q2.cell
    gi_wp2
    gi_region
    all_goals gi_wp2
    refine ⟨by simp, .inl ⟨_, _, rfl, run_takeDeferred hK, ?_⟩⟩
    refine ⟨_, ?_, rfl, hB.drew.trans (belowK_b (w := w) (Nat.le_refl _) W.drew D _ _ (by omega) hK rfl rfl)⟩
    simp [results, Try.f42, go_sem]
  case stop =>
    rintro D c pre W hD _ hf
    exact hf.elim

theorem clearing_w (r : Int) (A : Option Addr) (tr : List (Int × Int)) (cap : Nat) (w : World) (hr : 1 ≤ r ∧ r ≤ 2097152) (htl : tr.length ≤ 12)
    (htr : ∀ k, k < tr.length → 1 ≤ (pr tr k).1 ∧ (pr tr k).1 ≤ 1048576 ∧ 1 ≤ (pr tr k).2 ∧ (pr tr k).2 ≤ 2097152) (hc : Arr2 w w.heap.size A tr) :
    Calls Try.prog 42 #[.slice A tr.length cap, .int .i64 r] w (Ret w (.tuple #[.int .i64 (clF (dAll r tr tr.length)).1, .bool (clF (dAll r tr tr.length)).2])) :=
  (callsIn_wide (n := 3)).1 (clearing_in 3 (by decide) r A tr cap hr htl htr w hc)
#print axioms clearing_w
end Go.Proofs.Ytoighcbbaacnaaa
