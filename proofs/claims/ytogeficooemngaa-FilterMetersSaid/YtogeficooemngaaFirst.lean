/-
  The walks of bucket.levels, of its function, and of bucket.first (a range over a function).
-/
import Derived.RangeFuncBox
import Derived.RangeFuncLeaves
import Derived.RangeFuncNested
import Derived.Shelf.Abstract
import Derived.WalkKit
import Derived.OwnWalkIn
import Derived.TacticsInMore
import Derived.LoopNIn
import Derived.LoopIn
import Derived.Test.YtogeficooemngaaFirstPlain
namespace Go.Proofs.Ytogeficooemngaa
open Go.RowKit Go.Shelf
set_option linter.unusedVariables false
set_option linter.unusedSimpArgs false

attribute [local go_sem] Oper.semAt_some

theorem abides_alloc {β : Type} {B : Nat} {J : β → World → Prop} (h : AbidesFrom B J) {s : β} {W : World} (o : Obj) (hs : J s W) : J s (W.alloc o) := h s W _ none hs (World.grownBy_alloc W o none) (fun _ e => by cases e)

set_option maxRecDepth 100000 in
set_option maxHeartbeats 4000000 in
theorem levels1_in (F : Fence) (n : Nat) (h8 : F.fn 66) (hro : F.round = none) (hn : 1 ≤ n) (l Bb Bs n₀ : Nat) (A : Option Addr) (cap : Nat) (b r : Int) (tr : List (Int × Int))
    (hbk : 1 ≤ b ∧ b ≤ 1048576 ∧ 1 ≤ r ∧ r ≤ 2097152) (htr : trE tr = 0) (hn₀ : Bb < n₀ ∧ Bs < n₀) (J Jx : List (Nat × Int) → World → Prop) (W : World) (hJa : AbidesFrom W.heap.size J)
    (hY : ∀ pre x W, J pre W → pre.length < tr.length → YieldAt F (n - 1) Try.prog l #[.int .i64 (x.1 : Int), .int .i64 x.2] W fun e W' =>
      (e = .returned (.bool true) ∧ J (pre ++ [x]) W' ∧ Below n₀ W W') ∨ (e = .returned (.bool false) ∧ Jx (pre ++ [x]) W'))
    (hB0 : W.cell? ⟨Bb, 0, none⟩ = some (.int .i64 b)) (hB1 : W.cell? ⟨Bb, 1, none⟩ = some (.int .i64 r)) (hBs : W.cell? ⟨Bs, 0, none⟩ = some (.slice A tr.length cap)) (hc : Arr2 W n₀ A tr) (h0 : J [] W) (hsz : n₀ ≤ W.heap.size) :
    CallsIn F n Try.prog 66 #[.func (.yield l) #[] #[], .pointer (some ⟨Bb, 0, none⟩), .pointer (some ⟨Bs, 0, none⟩)] W fun e W' => (∃ v, e = .returned v) ∧
      ((∃ ys, ys = lvUp b r tr tr.length ∧ J ys W') ∨ (∃ pre, (∃ k, k ≤ tr.length ∧ pre = lvUp b r tr k) ∧ Jx pre W')) := by
  have htl := (trE_ok htr).1
  obtain ⟨len, hlen⟩ : ∃ n, tr.length = n := ⟨_, rfl⟩
  have HLEN := hide hlen
  rw [hlen] at hBs hY htl ⊢
  clear hlen
  refine callsIn_of_wp Try.func66 rfl h8 ?_ hro
  simp only [Try.ntmps66, List.size_toArray, List.length_cons, List.length_nil, Nat.reduceAdd, Nat.reduceSub, Array.replicate_succ, Array.replicate_zero, List.push_toArray, List.append_toArray, List.nil_append, List.cons_append]
  gi_wp2
  gi_loopw [5, 6, 15] (fun lv la i wr => ∃ k : Nat, k ≤ len ∧ i = .int .i64 k ∧ lv = .int .i64 (lvN b r tr k) ∧ la = .int .i64 (laN tr k) ∧ J (lvUp b r tr k) wr ∧ Below n₀ W wr)
    (fun _ _ i _ => len - (intOf i).toNat)
  case atStart =>
    refine ⟨0, Nat.zero_le _, rfl, ?_, rfl, h0, Below.refl _ _⟩
    rfl
  case round =>
    obtain ⟨k, hk, rfl, rfl, rfl, hJs, hnx⟩ := hrel
    have hws := hnx.size
    have hb0 := (hnx.cell (p := ⟨Bb, 0, none⟩) hn₀.1).trans hB0
    have hb1 := (hnx.cell (p := ⟨Bb, 1, none⟩) hn₀.1).trans hB1
    have hbs := (hnx.cell (p := ⟨Bs, 0, none⟩) hn₀.2).trans hBs
    by_cases hlt : k < len
    · have hlt' : k < tr.length := by rw [HLEN.out]; exact hlt
      obtain ⟨bk, off, rfl, hbb, g1, g2⟩ := hc k _ (pr_some hlt')
      have g1' : wr.cell? ⟨bk, off + k * 2, none⟩ = some (.int .i64 (pr tr k).1) := (hnx.cell (p := ⟨bk, off + k * 2, none⟩) hbb).trans g1
      have g2' : wr.cell? ⟨bk, off + k * 2 + 1, none⟩ = some (.int .i64 (pr tr k).2) := (hnx.cell (p := ⟨bk, off + k * 2 + 1, none⟩) hbb).trans g2
      have t := tr_all htr k hlt'
      have q := lv_bd hbk htr k (by omega)
      have m : 0 ≤ r * ((pr tr k).1 - laN tr k) ∧ r * ((pr tr k).1 - laN tr k) ≤ 2305843009213693952 := mul_bd 0 2097152 0 1099511627776 (by omega) (by omega) (by omega) (by omega) (by decide)
      have HV := hide (show lvN b r tr (k + 1) = min (b * 1048576) (lvN b r tr k + r * ((pr tr k).1 - laN tr k)) - (pr tr k).2 * 1048576 from rfl)
      have HLA := hide (show laN tr (k + 1) = (pr tr k).1 from rfl)
      obtain ⟨fn, tmps, assign, body, hy, hR⟩ := hY (lvUp b r tr k) (k, min (b * 1048576) (lvN b r tr k + r * ((pr tr k).1 - laN tr k)) - (pr tr k).2 * 1048576) (wr.alloc (.cells #[.int .i64 (pr tr k).1, .int .i64 (pr tr k).2] 72)) (abides_alloc hJa _ hJs) (by rw [lvUp_length]; exact hlt)
      dsimp only at hy
      have hb1a := (((Below.refl n₀ wr).alloc (by omega) (.cells #[.int .i64 (pr tr k).1, .int .i64 (pr tr k).2] 72)).cell (p := ⟨Bb, 1, none⟩) hn₀.1).trans hb1
      clear g1 g2
      gi_wp2
      refine hR.mono ?_
      rw [← HV.out]
      rintro e W3 (⟨rfl, hJ3, hk3⟩ | ⟨rfl, hJx3⟩)
      · gi_wp2
        go_roundw
        case rel => exact ⟨k + 1, by omega, by simp, by rw [HV.out], by rw [HLA.out], by rw [lvUp_succ]; exact hJ3, (hnx.alloc (by omega) _).trans hk3⟩
        case measure => simp [intOf]; omega
      · gi_wp2
        refine bodyPost_ret (results_none rfl _ _ _) rfl ?_
        exact ⟨⟨_, rfl⟩, .inr ⟨_, ⟨k + 1, by omega, (lvUp_succ _ _ _ _).symm⟩, hJx3⟩⟩
    · obtain rfl : k = len := by omega
      gi_wp2
      go_end0
      exact ⟨⟨_, rfl⟩, .inl ⟨_, rfl, hJs⟩⟩

set_option maxHeartbeats 1000000 in
theorem levels_in (F : Fence) (n : Nat) (h5 : F.fn 63) (hro : F.round = none) (b r : Int) (A : Option Addr) (len cap : Nat) (w : World) :
    CallsIn F n Try.prog 63 #[.agg #[.int .i64 b, .int .i64 r], .slice A len cap] w fun e w' => e = .returned (.func (.func 66) #[] #[.pointer (some ⟨w.heap.size, 0, none⟩), .pointer (some ⟨w.heap.size + 1, 0, none⟩)]) ∧
      w' = (w.alloc (.cells #[.int .i64 b, .int .i64 r] 67)).alloc (.cells #[.slice A len cap] 70) := by
  refine callsIn_of_wp Try.func63 rfl h5 ?_ hro
  simp only [Try.ntmps63, List.size_toArray, List.length_cons, List.length_nil, Nat.reduceAdd, Nat.reduceSub, Array.replicate_succ, Array.replicate_zero, List.push_toArray, List.append_toArray, List.nil_append, List.cons_append]
  gi_wp2
  go_ret
  exact ⟨rfl, rfl⟩

/-- The function of bucket.levels yields the levels, in order. -/
theorem levels_stops (F : Fence) (n : Nat) (h8 : F.fn 66) (hro : F.round = none) (hn : 1 ≤ n) (Bb Bs n₀ : Nat) (A : Option Addr) (cap : Nat) (b r : Int) (tr : List (Int × Int))
    (hbk : 1 ≤ b ∧ b ≤ 1048576 ∧ 1 ≤ r ∧ r ≤ 2097152) (htr : trE tr = 0) (hn₁ : Bb < n₀ ∧ Bs < n₀) (w : World) (hn₀ : n₀ ≤ w.heap.size)
    (hB0 : w.cell? ⟨Bb, 0, none⟩ = some (.int .i64 b)) (hB1 : w.cell? ⟨Bb, 1, none⟩ = some (.int .i64 r)) (hBs : w.cell? ⟨Bs, 0, none⟩ = some (.slice A tr.length cap)) (hc : Arr2 w n₀ A tr) :
    SeqStopsK F n Try.prog 66 #[.pointer (some ⟨Bb, 0, none⟩), .pointer (some ⟨Bs, 0, none⟩)] (fun x : Nat × Int => #[Value.int .i64 (x.1 : Int), Value.int .i64 x.2]) (Below n₀) (fun ys => ys = lvUp b r tr tr.length)
      (fun pre => ∃ k, k ≤ tr.length ∧ pre = lvUp b r tr k) tr.length w := fun l J Jx W hW hJ _ hY h0 => by
  have hb := hW.mono hn₀
  exact levels1_in F n h8 hro hn l Bb Bs n₀ A cap b r tr hbk htr hn₁ J Jx W hJ hY ((hb.cell (p := ⟨Bb, 0, none⟩) hn₁.1).trans hB0) ((hb.cell (p := ⟨Bb, 1, none⟩) hn₁.1).trans hB1) ((hb.cell (p := ⟨Bs, 0, none⟩) hn₁.2).trans hBs) (hc.below hb (Nat.le_refl _)) h0 (Nat.le_trans hn₀ hW.size)

set_option maxRecDepth 100000 in
set_option maxHeartbeats 4000000 in
theorem first_in (F : Fence) (n : Nat) (h4 : F.fn 42) (h6 : F.fn 63) (h8 : F.fn 66) (hro : F.round = none) (hn : 3 ≤ n) (b r : Int) (A : Option Addr) (tr : List (Int × Int)) (cap : Nat)
    (hbk : 1 ≤ b ∧ b ≤ 1048576 ∧ 1 ≤ r ∧ r ≤ 2097152) (htr : trE tr = 0) (w : World) (hc : Arr2 w w.heap.size A tr) :
    CallsIn F n Try.prog 42 #[.agg #[.int .i64 b, .int .i64 r], .slice A tr.length cap] w (Ret w (.int .i64 (firstI b r tr))) := by
  have h1 : 1 ≤ n := by omega
  have HC := hide hc
  have HTR := hide htr
  clear hc htr
  refine callsIn_of_wp_marks Try.func42 rfl h4 ?_ hro
  simp only [Try.ntmps42, List.size_toArray, List.length_cons, List.length_nil, Nat.reduceAdd, Nat.reduceSub, Array.replicate_succ, Array.replicate_zero, List.push_toArray, List.append_toArray, List.nil_append, List.cons_append]
  gi_wp2_with (gi_at_call 63; refine (levels_in F (n - 1) h6 hro _ _ _ _ _ _).mono ?_; rintro e w' ⟨rfl, rfl⟩)
  obtain ⟨W0, hW0⟩ : ∃ W0, (((w.alloc (.cells #[.int .i64 b, .int .i64 r] 67)).alloc (.cells #[.int .i64 0] 3)).alloc (.cells #[.int .i64 b, .int .i64 r] 67)).alloc (.cells #[.slice A tr.length cap] 70) = W0 := ⟨_, rfl⟩
  have hsz : W0.heap.size = w.heap.size + 4 := by rw [← hW0]; simp
  have c0 : W0.cell? ⟨w.heap.size + 1 + 1, 0, none⟩ = some (.int .i64 b) := by rw [← hW0, World.cell?_alloc_past _ _ _ (by simp), World.cell?_alloc_at _ _ _ _ (by simp)]; rfl
  have c1 : W0.cell? ⟨w.heap.size + 1 + 1, 1, none⟩ = some (.int .i64 r) := by rw [← hW0, World.cell?_alloc_past _ _ _ (by simp), World.cell?_alloc_at _ _ _ _ (by simp)]; rfl
  have c2 : W0.cell? ⟨w.heap.size + 1 + 1 + 1, 0, none⟩ = some (.slice A tr.length cap) := by rw [← hW0, World.cell?_alloc_at _ _ _ _ (by simp)]; rfl
  have bR := ((Boxed.new (w.alloc (.cells #[.int .i64 b, .int .i64 r] 67)) 3 (.int .i64 0)).alloc (.cells #[.int .i64 b, .int .i64 r] 67)).alloc (.cells #[.slice A tr.length cap] 70)
  rw [World.size_alloc, hW0] at bR
  have c3 := bR.cell
  have c4 := bR.frozen
  have hB0 : Below w.heap.size w W0 := by
    rw [← hW0]
    exact ((((Below.refl _ w).alloc (by simp) _).alloc (by simp) _).alloc (by rw [World.size_alloc, World.size_alloc]; omega) _).alloc (by rw [World.size_alloc, World.size_alloc, World.size_alloc]; omega) _
  rw [hW0]
  clear hW0
  refine wpIn_rangeFunc_ownG hro h1 (gf := 66) (lb := #[.pointer (some ⟨w.heap.size + 1 + 1, 0, none⟩), .pointer (some ⟨w.heap.size + 1 + 1 + 1, 0, none⟩)]) rfl h8 (enters_of Try.func66 (by kernel_rfl) rfl)
    (levels_stops F (n - 1) h8 hro (by omega) (w.heap.size + 1 + 1) (w.heap.size + 1 + 1 + 1) (w.heap.size + 4) A cap b r tr hbk HTR.out (by omega) W0 (by omega) c0 c1 c2 ((HC.out.below hB0 (Nat.le_refl _)).more (by omega))) belowK_t (belowK_b (by omega)) (Below.refl _ _) (fun _ => rfl)
    (fun pre W => ((∀ p ∈ pre, 0 ≤ p.2) ∧ W.cell? ⟨w.heap.size + 1, 0, none⟩ = some (.int .i64 0) ∧ W.frozen? ⟨w.heap.size + 1, 0, none⟩ = false) ∧ Below w.heap.size w W)
    (fun c pre W => (c = .ret ∧ ∃ ini last, pre = ini ++ [last] ∧ (∀ p ∈ ini, 0 ≤ p.2) ∧ last.2 < 0 ∧ W.cell? ⟨w.heap.size + 1, 0, none⟩ = some (.int .i64 (last.1 : Int))) ∧ Below w.heap.size w W)
    (OwnFrom.and (Own.from (fun s A B row hs hg hr => ⟨hs.1, cell_kept hs.2.1 hg hr, (frozen_kept hs.2.1 hg hr).trans hs.2.2⟩) _) (ownFrom_below (Nat.le_refl _) (by omega)))
    (fun c => OwnFrom.and (Own.from (fun s A B row hs hg hr => by obtain ⟨hc, ini, last, e1, e2, e3, e4⟩ := hs; exact ⟨hc, ini, last, e1, e2, e3, cell_kept e4 hg hr⟩) _) (ownFrom_below (Nat.le_refl _) (by omega)))
    ⟨⟨by simp, c3, c4⟩, hB0⟩
    (fun x => { tmps := #[.agg #[.int .i64 b, .int .i64 r], .slice A tr.length cap, .pointer (some ⟨w.heap.size, 0, none⟩), undef, .pointer (some ⟨w.heap.size + 1, 0, none⟩), .int .i64 (x.1 : Int), .int .i64 x.2, .agg #[.int .i64 b, .int .i64 r], .slice A tr.length cap, .func (.func 66) #[] #[.pointer (some ⟨w.heap.size + 1 + 1, 0, none⟩), .pointer (some ⟨w.heap.size + 1 + 1 + 1, 0, none⟩)], .int .i64 (x.1 : Int), .int .i64 x.2, undef, undef, undef], defers := [] }) ?assign ?body ?done ?stop
  case assign =>
    intro l x W K hK
    gi_wp2
    exact hK
  case body =>
    rintro l pre x W ⟨⟨hp, hcr, hfr⟩, hB⟩ _
    gi_wp2
    · have hx : x.2 < 0 := by assumption
      exact ⟨(KeepsOthers.setCell _ _ _).from _, ⟨rfl, pre, x, rfl, hp, hx, World.cell?_setCell_same' _ _ _ (by rw [hcr]; rfl)⟩, hB.setCell (p := ⟨w.heap.size + 1, 0, none⟩) (by simp) _⟩
    · have hx : 0 ≤ x.2 := by assumption
      exact ⟨KeepsFrom.refl _ _, Below.refl _ _, ⟨fun p hp' => (List.mem_append.1 hp').elim (hp p) (fun e => by simp at e; subst e; exact hx), hcr, hfr⟩, hB⟩
  case done =>
    rintro D ys W hD rfl ⟨⟨hne, hcr, hfr⟩, hB⟩ hK
    gi_wp2
    have hK' := (KeepsOthers.setCell W ⟨w.heap.size + 1, 0, none⟩ (.int .i64 (-1))).same D _ hK rfl
    refine ⟨by simp, .inl ⟨_, _, rfl, run_takeDeferred hK', ?_⟩⟩
    have hc5 := cell_kept (World.cell?_setCell_same' W ⟨w.heap.size + 1, 0, none⟩ (.int .i64 (-1)) (by rw [hcr]; rfl)) (grownBy_putObj' _ D (.deferred none)) (fun r e => by cases e; exact ⟨_, hK', rfl⟩)
    have hf : firstI b r tr = -1 := firstI_none fun j hj => hne (j, lvN b r tr (j + 1)) (by simp only [lvUp, List.mem_map, List.mem_range]; exact ⟨j, hj, rfl⟩)
    refine ⟨.int .i64 (-1), ?_, by rw [hf], (hB.setCell (p := ⟨w.heap.size + 1, 0, none⟩) (by simp) _).trans (belowK_b (w := w) (Nat.le_refl _) _ D _ _ (by omega) hK' rfl rfl)⟩
    simp [results, Try.f42, go_sem, hc5]
  case stop =>
    rintro D c pre W hD ⟨k, hk, rfl⟩ ⟨⟨rfl, ini, last, e1, e2, e3, hcr⟩, hB⟩ hK
    gi_wp2
    refine ⟨by simp, .inl ⟨_, _, rfl, run_takeDeferred hK, ?_⟩⟩
    have hc5 := cell_kept hcr (grownBy_putObj' _ D (.deferred none)) (fun r e => by cases e; exact ⟨_, hK, rfl⟩)
    obtain ⟨k', rfl⟩ : ∃ k', k = k' + 1 := by
      cases k with
      | zero => simp [lvUp] at e1
      | succ k' => exact ⟨k', rfl⟩
    rw [lvUp_succ] at e1
    obtain ⟨rfl, e5⟩ := List.append_inj' e1 rfl
    obtain rfl : (k', lvN b r tr (k' + 1)) = last := by simpa using e5
    have hf : firstI b r tr = k' := firstI_some (by omega) e3 fun j hj => e2 (j, lvN b r tr (j + 1)) (by simp only [lvUp, List.mem_map, List.mem_range]; exact ⟨j, hj, rfl⟩)
    refine ⟨.int .i64 (k' : Int), ?_, by rw [hf], hB.trans (belowK_b (w := w) (Nat.le_refl _) W D _ _ (by omega) hK rfl rfl)⟩
    simp [results, Try.f42, go_sem, hc5]

theorem first_w (b r : Int) (A : Option Addr) (tr : List (Int × Int)) (cap : Nat) (w : World) (hbk : 1 ≤ b ∧ b ≤ 1048576 ∧ 1 ≤ r ∧ r ≤ 2097152) (htr : trE tr = 0) (hc : Arr2 w w.heap.size A tr) :
    Calls Try.prog 42 #[.agg #[.int .i64 b, .int .i64 r], .slice A tr.length cap] w (Ret w (.int .i64 (firstI b r tr))) :=
  (callsIn_wide (n := 3)).1 (first_in Fence.wide 3 trivial trivial trivial rfl (by decide) b r A tr cap hbk htr w hc)
#print axioms first_w
end Go.Proofs.Ytogeficooemngaa
