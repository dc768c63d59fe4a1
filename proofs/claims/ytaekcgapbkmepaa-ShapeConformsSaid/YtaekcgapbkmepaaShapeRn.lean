/-
  The walk of shape.Run, where the trace is valid and its frames fit.
-/
import Derived.Test.YtaekcgapbkmepaaShapeIt
namespace Go.Proofs.Ytaekcgapbkmepaa
open Go.RowKit Go.Shelf
set_option linter.unusedVariables false
set_option linter.unusedSimpArgs false

attribute [local go_sem] Oper.semAt_some

set_option maxHeartbeats 1000000 in
theorem shrun_in (n : Nat) (b r x y : Int) (A : Option Addr) (len cap : Nat) (w : World) :
    CallsIn Fence.wide n Try.prog 33 #[.agg #[.int .i64 b, .int .i64 r], .agg #[.int .i64 x, .int .i64 y], .slice A len cap] w fun e w' => e = .returned (.func (.func 40) #[] #[.pointer (some ⟨w.heap.size + 1 + 1, 0, none⟩), .pointer (some ⟨w.heap.size, 0, none⟩), .pointer (some ⟨w.heap.size + 1, 0, none⟩)]) ∧
      w' = ((w.alloc (.cells #[.int .i64 b, .int .i64 r] 23)).alloc (.cells #[.int .i64 x, .int .i64 y] 29)).alloc (.cells #[.slice A len cap] 45) := by
  refine callsIn_of_wp Try.func33 rfl trivial ?_ rfl
  simp only [Try.ntmps33, List.size_toArray, List.length_cons, List.length_nil, Nat.reduceAdd, Nat.reduceSub, Array.replicate_succ, Array.replicate_zero, List.push_toArray, List.append_toArray, List.nil_append, List.cons_append]
  gi_wp2
  go_ret
  exact ⟨rfl, rfl⟩

theorem run_stops (n : Nat) (hn : 1 ≤ n) (Bl Bb Bs Bt n₀ : Nat) (A : Option Addr) (cap : Nat) (b r : Int) (tr : List (Int × Int)) (hb : bkE b r = 0) (ht : trE tr = 0) (hf : fitB b tr = true)
    (hne : Bl ≠ Bt ∧ Bb ≠ Bt ∧ Bs ≠ Bt ∧ Bl ≠ Bs ∧ Bb ≠ Bs) (hlo : n₀ ≤ Bl ∧ n₀ ≤ Bb ∧ n₀ ≤ Bs ∧ n₀ ≤ Bt) (w : World) (hsz : Bl < w.heap.size ∧ Bb < w.heap.size ∧ Bs < w.heap.size ∧ Bt < w.heap.size)
    (hBl : w.heap[Bl]? = some (.cells #[.slice A tr.length cap] 45 (0, 0))) (hBb : w.heap[Bb]? = some (.cells #[.int .i64 b, .int .i64 r] 23 (0, 0))) (hBs : w.heap[Bs]? = some (.cells #[.int .i64 0, .int .i64 (b * 1048576)] 29 (0, 0))) (hc : Arr2 w n₀ A tr) :
    SeqSt n Try.prog 40 #[.pointer (some ⟨Bl, 0, none⟩), .pointer (some ⟨Bb, 0, none⟩), .pointer (some ⟨Bs, 0, none⟩)] (KT n₀ Bt) (StS Bs) (fun ys => ys = shUp b r tr tr.length ∨ ∃ k, k < tr.length ∧ ys = shUp b r tr (k + 1) ∧ 1099511627776 < (shN b r tr (k + 1)).1)
      (fun pre => ∃ k, k < tr.length ∧ pre = shUp b r tr (k + 1)) tr.length w := fun l J Jx W hW hJ hJs hY h0 => by
  have hs := hW.size
  exact run1_in n hn l Bl Bb Bs Bt n₀ A cap b r tr hb ht hf hne hlo J Jx W (by omega) hJ hJs hY ((hW.block Bl hsz.1).trans hBl) ((hW.block Bb hsz.2.1).trans hBb) ((hW.block Bs hsz.2.2.1).trans hBs) (hc.below (hW.mono (by omega)) (Nat.le_refl _)) h0

theorem cells_kept {W W' : World} {row : Option Nat} {B : Nat} {cs : Array Value} {t : TypeId} (h : W.heap[B]? = some (.cells cs t (0, 0))) (hg : W.grownBy W' row) (hr : ∀ r, row = some r → ∃ o : Obj, W.heap[r]? = some o ∧ o.isCells = false) : W'.heap[B]? = some (.cells cs t (0, 0)) :=
  (hg.block B (Array.getElem?_eq_some_iff.1 h).1 (fun e => by obtain ⟨o, ho, hc⟩ := hr B e.symm; rw [h] at ho; cases ho; cases hc)).trans h
theorem row_kept {W W' : World} {row : Option Nat} {n0 e size k : Nat} {v : Value} {xs : List Value} (h : W.ownsRow n0 e size v k xs) (hg : W.grownBy W' row) (hr : ∀ r, row = some r → ∃ o : Obj, W.heap[r]? = some o ∧ o.isCells = false) : W'.ownsRow n0 e size v k xs := by
  refine h.kept hg ?_
  rcases h.2 with ⟨rfl, _⟩ | ⟨g, cap, cur, rfl, _, hgb, _⟩
  · exact .inl rfl
  · refine .inr fun q => ?_
    obtain ⟨o, ho, hc⟩ := hr g q.symm
    rw [hgb] at ho; cases ho; cases hc
theorem not_row2 {W : World} {B : Nat} {t e : TypeId} {cs : Array Value} (h : W.heap[B]? = some (.cells cs t (0, 0))) (hte : t ≠ e) {base size k : Nat} {v : Value} {xs : List Value} (hr : W.ownsRow base e size v k xs) : v.ownBlock ≠ some B := by
  rcases hr.2 with ⟨rfl, _⟩ | ⟨g, cap, cur, rfl, _, hgb, _⟩
  · simp [Value.ownBlock]
  · intro q
    obtain rfl : g = B := by simpa [Value.ownBlock] using q
    rw [h] at hgb
    injection hgb with hgb
    injection hgb with _ q2
    exact hte q2
/-- Between two rounds of shape.Run. -/
structure RI (w : World) (Bt Bs : Nat) (pre : List Int) (W : World) : Prop where
  row : ∃ A c, Boxed W Bt 48 (.slice A pre.length c) ∧ W.ownsRow w.heap.size 3 1 (.slice A pre.length c) pre.length (pre.map (Value.int .i64))
  all : ∀ x ∈ pre, x ≤ 1099511627776
  r1 : Boxed W (w.heap.size + 1) 48 (.slice none 0 0)
  r2 : Boxed W (w.heap.size + 1 + 1) 35 (.int .i64 0)
  st : ∃ x y, W.heap[Bs]? = some (.cells #[x, y] 29 (0, 0))
  bel : Below w.heap.size w W
structure RX (w : World) (pre : List Int) (W : World) : Prop where
  last : ∃ ini x, pre = ini ++ [x] ∧ 1099511627776 < x
  r1 : Boxed W (w.heap.size + 1) 48 (.slice none 0 0)
  r2 : Boxed W (w.heap.size + 1 + 1) 35 (.int .i64 6)
  bel : Below w.heap.size w W
theorem RI.own {w : World} {Bt Bs B : Nat} (hB : w.heap.size ≤ B) : OwnFrom B (RI w Bt Bs) := fun s X Y row h hg hr => by
  have hr2 : ∀ r, row = some r → ∃ o : Obj, X.heap[r]? = some o ∧ o.isCells = false := fun r e => (hr r e).2
  obtain ⟨A, c, hv, how⟩ := h.row
  obtain ⟨x, y, hst⟩ := h.st
  exact ⟨⟨A, c, cells_kept hv hg hr2, row_kept how hg hr2⟩, h.all, cells_kept h.r1 hg hr2, cells_kept h.r2 hg hr2, ⟨x, y, cells_kept hst hg hr2⟩, h.bel.grown hg h.bel.size (fun k e => Nat.le_trans hB (hr k e).1)⟩
theorem RX.own {w : World} {B : Nat} (hB : w.heap.size ≤ B) : OwnFrom B (RX w) := fun s X Y row h hg hr => by
  have hr2 : ∀ r, row = some r → ∃ o : Obj, X.heap[r]? = some o ∧ o.isCells = false := fun r e => (hr r e).2
  exact ⟨h.last, cells_kept h.r1 hg hr2, cells_kept h.r2 hg hr2, h.bel.grown hg h.bel.size (fun k e => Nat.le_trans hB (hr k e).1)⟩
theorem RI.sto {w : World} {Bt Bs : Nat} (hB : w.heap.size + 1 + 1 < Bs ∧ Bt ≠ Bs) (s : List Int) (X Y : World) (h : RI w Bt Bs s X) (hs : StS Bs X Y) : RI w Bt Bs s Y := by
  obtain ⟨A, c, hv, how⟩ := h.row
  obtain ⟨x, y, hst⟩ := h.st
  obtain ⟨hg, x', y', hy⟩ := hs
  refine ⟨⟨A, c, hv.kept hg (fun e => hB.2 (by injection e)), how.kept hg (.inr (not_row2 hst (by decide) how))⟩, h.all, h.r1.kept hg (fun e => by injection e with e; omega), h.r2.kept hg (fun e => by injection e with e; omega), ⟨x', y', hy⟩, h.bel.grown hg h.bel.size (fun k e => by injection e with e; omega)⟩

set_option maxRecDepth 100000 in
set_option maxHeartbeats 8000000 in
theorem shRun_in (n : Nat) (hn : 3 ≤ n) (b r : Int) (A : Option Addr) (tr : List (Int × Int)) (cap : Nat) (hb : bkE b r = 0) (ht : trE tr = 0) (hf : fitB b tr = true) (w : World) (hc : Arr2 w w.heap.size A tr) :
    CallsIn Fence.wide n Try.prog 19 #[.agg #[.int .i64 b, .int .i64 r], .slice A tr.length cap] w (fun e W' =>
      (allT b r tr tr.length = true → RetOwn w (fun v => .tuple #[v, .int .i64 0]) 3 1 tr.length ((shUp b r tr tr.length).map (Value.int .i64)) e W') ∧ (¬ allT b r tr tr.length = true → Ret w (.tuple #[.slice none 0 0, .int .i64 6]) e W')) := by
  have h1 : 1 ≤ n := by omega
  have htl := (trE_ok ht).1
  have hbd := bkE_ok hb
  obtain ⟨len, hlen⟩ : ∃ n, tr.length = n := ⟨_, rfl⟩
  have HC := hide hc
  have HTR := hide (And.intro hb (And.intro ht (And.intro hf hlen)))
  rw [hlen] at htl ⊢
  clear hc ht hf hlen
  refine callsIn_of_wp_marks Try.func19 rfl trivial ?_ rfl
  simp only [Try.ntmps19, List.size_toArray, List.length_cons, List.length_nil, Nat.reduceAdd, Nat.reduceSub, Array.replicate_succ, Array.replicate_zero, List.push_toArray, List.append_toArray, List.nil_append, List.cons_append]
  gi_wp2
  refine ⟨trivial, ?_⟩
  refine (callsIn_wide.2 (shNew_w b r _)).mono ?_
  rintro e W1 ⟨rfl, hb1⟩
  rw [snL_yes hb, hb]
  have q0 : W1.heap[w.heap.size]? = some (.cells #[.int .i64 b, .int .i64 r] 23 (0, 0)) := by
    rw [hb1.block _ (by simp; omega), Below.heap_alloc _ _ _ (by simp; omega), Below.heap_alloc _ _ _ (by simp)]
    exact World.alloc_heap_new w _
  have q1 : W1.heap[w.heap.size + 1]? = some (.cells #[.slice none 0 0] 48 (0, 0)) := by
    rw [hb1.block _ (by simp), Below.heap_alloc _ _ _ (by simp)]
    have := World.alloc_heap_new (w.alloc (.cells #[.int .i64 b, .int .i64 r] 23)) (.cells #[.slice none 0 0] 48)
    rwa [World.size_alloc] at this
  have q2 : W1.heap[w.heap.size + 1 + 1]? = some (.cells #[.int .i64 0] 35 (0, 0)) := by
    rw [hb1.block _ (by simp)]
    have := World.alloc_heap_new ((w.alloc (.cells #[.int .i64 b, .int .i64 r] 23)).alloc (.cells #[.slice none 0 0] 48)) (.cells #[.int .i64 0] 35)
    rwa [World.size_alloc, World.size_alloc] at this
  have z1 := hb1.size
  rw [World.size_alloc, World.size_alloc, World.size_alloc] at z1
  have hB1 : Below w.heap.size w W1 := ((((Below.refl _ w).alloc (Nat.le_refl _) _).alloc (by simp) _).alloc (by rw [World.size_alloc, World.size_alloc]; omega) _).trans (hb1.mono (by simp; omega))
  gi_wp2
  refine ⟨trivial, ?_⟩
  rw [← HTR.out.2.2.2]
  refine (callsIn_wide.2 (checkTrace_w A tr cap _ (Ro.of_arr2 (HC.out.below (hB1.alloc (by omega) _) (Nat.le_refl _))))).mono ?_
  rintro e W2 ⟨rfl, hb2⟩
  rw [HTR.out.2.1, HTR.out.2.2.2]
  have z2 := hb2.size
  rw [World.size_alloc] at z2
  have r0 := (hb2.block _ (by simp; omega)).trans ((Below.heap_alloc W1 (.cells #[.int .i64 0, .int .i64 (b * 1048576)] 29) _ (by omega)).trans q0)
  have r1 := (hb2.block _ (by simp; omega)).trans ((Below.heap_alloc W1 (.cells #[.int .i64 0, .int .i64 (b * 1048576)] 29) _ (by omega)).trans q1)
  have r2 := (hb2.block _ (by simp; omega)).trans ((Below.heap_alloc W1 (.cells #[.int .i64 0, .int .i64 (b * 1048576)] 29) _ (by omega)).trans q2)
  have r3 := (hb2.block W1.heap.size (by simp)).trans (World.alloc_heap_new W1 _)
  have hB2 : Below w.heap.size w W2 := (hB1.alloc (by omega) _).trans (hb2.mono (by simp; omega))
  clear q0 q1 q2
  gi_wp2
  gi_loopw [28] (fun i wr => ∃ k : Nat, k ≤ len ∧ i = .int .i64 k ∧ Below W2.heap.size W2 wr) (fun i _ => len - (intOf i).toNat)
  case atStart => exact ⟨0, Nat.zero_le _, rfl, Below.refl _ _⟩
  case round =>
    obtain ⟨wo, rfl⟩ : ∃ wo : World, wo = wr := ⟨_, rfl⟩
    obtain ⟨k, hk, rfl, hW⟩ := hrel
    have hws := hW.size
    by_cases hlt : k < len
    · have hlt' : k < tr.length := by rw [HTR.out.2.2.2]; exact hlt
      obtain ⟨bk, off, rfl, hbk, g1, g2⟩ := HC.out k _ (pr_some hlt')
      have g1' := ((hB2.trans (hW.mono (by omega))).cell (p := ⟨bk, off + k * 2, none⟩) hbk).trans g1
      have g2' := ((hB2.trans (hW.mono (by omega))).cell (p := ⟨bk, off + k * 2 + 1, none⟩) hbk).trans g2
      clear g1 g2
      have hfit := fitB_get HTR.out.2.2.1 hlt'
      have c0 := cell_at (j := 0) ((Below.heap_alloc wo (.cells #[.int .i64 (pr tr k).1, .int .i64 (pr tr k).2] 31) _ (by omega)).trans ((hW.block _ (by omega)).trans r0)) rfl
      gi_wp2
      go_roundw
      case rel => exact ⟨k + 1, by omega, by simp, hW.alloc (by omega) _⟩
      case measure => simp [intOf]; omega
    · obtain rfl : k = len := by omega
      have s0 := (hW.block _ (by omega)).trans r0
      have s1 := (hW.block _ (by omega)).trans r1
      have s2 := (hW.block _ (by omega)).trans r2
      have s3 := (hW.block W1.heap.size (by omega)).trans r3
      have hB3 := hB2.trans (hW.mono (by omega))
      obtain ⟨hu, i0, hi, hz0, hz1, hz2⟩ := tyE_spec (show tyE Try.prog 48 = some (3, 1, 8, .int .i64 0) by kernel_rfl)
      obtain ⟨W4, hmk, how4, hg4⟩ := run_make_own (P := Try.prog) wo w.heap.size 48 3 i0 (.int .i64 0) 1 hu hi hz0 hz1 .i64 .i64 k (by rw [hz2]; omega) (by unfold maxLen; omega) (by omega)
      have z4 := hg4.size
      have t0 := (hg4.block _ (by omega) (by simp)).trans s0
      have t1 := (hg4.block _ (by omega) (by simp)).trans s1
      have t2 := (hg4.block _ (by omega) (by simp)).trans s2
      have t3 := (hg4.block W1.heap.size (by omega) (by simp)).trans s3
      have hB4 := hB3.grown hg4 (by omega) (fun k e => by cases e)
      have e0 := cell_at (j := 0) ((Below.heap_alloc W4 (.cells #[.slice (some ⟨wo.heap.size, 0, none⟩) 0 k] 48) _ (by omega)).trans t0) rfl
      have e1 := cell_at (j := 1) ((Below.heap_alloc W4 (.cells #[.slice (some ⟨wo.heap.size, 0, none⟩) 0 k] 48) _ (by omega)).trans t0) rfl
      have e2 := cell_at (j := 0) ((Below.heap_alloc W4 (.cells #[.slice (some ⟨wo.heap.size, 0, none⟩) 0 k] 48) _ (by omega)).trans t3) rfl
      have e3 := cell_at (j := 1) ((Below.heap_alloc W4 (.cells #[.slice (some ⟨wo.heap.size, 0, none⟩) 0 k] 48) _ (by omega)).trans t3) rfl
      gi_wp2
      refine ⟨trivial, ?_⟩
      refine (shrun_in (n - 1) b r 0 (b * 1048576) A k cap _).mono ?_
      rintro e w' ⟨rfl, rfl⟩
      gi_wp2
      obtain ⟨W0, hW0⟩ : ∃ W0, (((W4.alloc (.cells #[.slice (some ⟨wo.heap.size, 0, none⟩) 0 k] 48)).alloc (.cells #[.int .i64 b, .int .i64 r] 23)).alloc (.cells #[.int .i64 0, .int .i64 (b * 1048576)] 29)).alloc (.cells #[.slice A k cap] 45) = W0 := ⟨_, rfl⟩
      have y0 : W0.heap.size = W4.heap.size + 4 := by rw [← hW0]; simp
      have hbW : Below W4.heap.size W4 W0 := by
        rw [← hW0]
        exact ((((Below.refl _ W4).alloc (by simp) _).alloc (by simp) _).alloc (by rw [World.size_alloc, World.size_alloc]; omega) _).alloc (by rw [World.size_alloc, World.size_alloc, World.size_alloc]; omega) _
      have x1 : Boxed W0 W4.heap.size 48 (.slice (some ⟨wo.heap.size, 0, none⟩) 0 k) := by rw [← hW0]; exact (((Boxed.new W4 _ _).alloc _).alloc _).alloc _
      have x2 : W0.heap[W4.heap.size + 1]? = some (.cells #[.int .i64 b, .int .i64 r] 23 (0, 0)) := by
        rw [← hW0, Below.heap_alloc _ _ _ (by simp), Below.heap_alloc _ _ _ (by simp)]
        have := World.alloc_heap_new (W4.alloc (.cells #[.slice (some ⟨wo.heap.size, 0, none⟩) 0 k] 48)) (.cells #[.int .i64 b, .int .i64 r] 23)
        rwa [World.size_alloc] at this
      have x3 : W0.heap[W4.heap.size + 1 + 1]? = some (.cells #[.int .i64 0, .int .i64 (b * 1048576)] 29 (0, 0)) := by
        rw [← hW0, Below.heap_alloc _ _ _ (by simp)]
        have := World.alloc_heap_new ((W4.alloc (.cells #[.slice (some ⟨wo.heap.size, 0, none⟩) 0 k] 48)).alloc (.cells #[.int .i64 b, .int .i64 r] 23)) (.cells #[.int .i64 0, .int .i64 (b * 1048576)] 29)
        rwa [World.size_alloc, World.size_alloc] at this
      have x4 : W0.heap[W4.heap.size + 1 + 1 + 1]? = some (.cells #[.slice A k cap] 45 (0, 0)) := by
        rw [← hW0]
        have := World.alloc_heap_new (((W4.alloc (.cells #[.slice (some ⟨wo.heap.size, 0, none⟩) 0 k] 48)).alloc (.cells #[.int .i64 b, .int .i64 r] 23)).alloc (.cells #[.int .i64 0, .int .i64 (b * 1048576)] 29)) (.cells #[.slice A k cap] 45)
        rwa [World.size_alloc, World.size_alloc, World.size_alloc] at this
      have hB5 : Below w.heap.size w W0 := hB4.trans (hbW.mono (by omega))
      have v1 := (hbW.block _ (by omega)).trans t1
      have v2 := (hbW.block _ (by omega)).trans t2
      have ho5 : W0.ownsRow w.heap.size 3 1 (.slice (some ⟨wo.heap.size, 0, none⟩) 0 k) 0 [] := how4.kept (row := none) ⟨hbW.os, hbW.tape, hbW.output, hbW.size, fun q hq _ => hbW.block q hq⟩ (.inr (by simp [Value.ownBlock]))
      rw [hW0]
      clear hW0 e0 e1 e2 e3
      have hkl := HTR.out.2.2.2
      refine range_st h1 (gf := 40) (lb := #[.pointer (some ⟨W4.heap.size + 1 + 1 + 1, 0, none⟩), .pointer (some ⟨W4.heap.size + 1, 0, none⟩), .pointer (some ⟨W4.heap.size + 1 + 1, 0, none⟩)]) rfl (enters_of Try.func40 (by kernel_rfl) rfl)
        (run_stops (n - 1) (by omega) (W4.heap.size + 1 + 1 + 1) (W4.heap.size + 1) (W4.heap.size + 1 + 1) W4.heap.size w.heap.size A cap b r tr HTR.out.1 HTR.out.2.1 HTR.out.2.2.1 (by omega) (by omega) W0 (by omega) (by rw [hkl]; exact x4) x2 x3 (HC.out.below hB5 (Nat.le_refl _)))
        (fun h k => h.trans k) (fun W l o o' q1 q2 q3 q4 => KT.put (w := W0) (by omega) W l o o' q1 q2 q3 q4)
        (fun X Y q o hs hq ho hc => (hs.1.block q (Array.getElem?_eq_some_iff.1 ho).1 (fun e => by injection e with e; omega)).trans ho)
        (RI w W4.heap.size (W4.heap.size + 1 + 1)) (RX w) (RI.own (by omega)) (RI.sto (by omega)) (RX.own (by omega))
        ⟨⟨_, _, x1, ho5⟩, fun x hx => by simp at hx, v1, v2, ⟨_, _, x3⟩, hB5⟩
        (fun x => { tmps := #[.agg #[.int .i64 b, .int .i64 r], .slice A k cap, .pointer (some ⟨w.heap.size, 0, none⟩), undef, .pointer (some ⟨w.heap.size + 1, 0, none⟩), .pointer (some ⟨w.heap.size + 1 + 1, 0, none⟩), .pointer (some ⟨W1.heap.size, 0, none⟩), .int .i64 0, .int .i64 0, undef, u10, .pointer (some ⟨W4.heap.size, 0, none⟩), .int .i64 x, .tuple #[.agg #[.int .i64 0, .int .i64 (b * 1048576)], .int .i64 0], .agg #[.int .i64 b, .int .i64 r], .tuple #[.agg #[.int .i64 0, .int .i64 (b * 1048576)], .int .i64 0], .agg #[.int .i64 0, .int .i64 (b * 1048576)], .int .i64 0, .int .i64 0, .bool false, undef, .slice A k cap, .int .i64 0, .int .i64 0, .bool false, undef, .slice A k cap, .int .i64 k, .int .i64 k, .bool false, u30, u31, u32, u33, u34, u35, u36, u37, .slice A k cap, .int .i64 k, .slice (some ⟨wo.heap.size, 0, none⟩) 0 k, .agg #[.int .i64 b, .int .i64 r], .agg #[.int .i64 0, .int .i64 (b * 1048576)], .slice A k cap, .func (.func 40) #[] #[.pointer (some ⟨W4.heap.size + 1 + 1 + 1, 0, none⟩), .pointer (some ⟨W4.heap.size + 1, 0, none⟩), .pointer (some ⟨W4.heap.size + 1 + 1, 0, none⟩)], .int .i64 x, undef, undef, undef, undef, undef, undef, undef], defers := [] }) ?assign ?body ?done ?stop
      case assign =>
        intro l x W K hK
        gi_wp2
        exact hK
      case body =>
        rintro l pre x W hI hlt
        obtain ⟨A1, c1, hv, how⟩ := hI.row
        have hc := hv.cell
        have hcf := hv.frozen
        have f1 := hI.r1.cell
        have f2 := hI.r1.frozen
        have f3 := hI.r2.cell
        have f4 := hI.r2.frozen
        have k1 := hI.r2.kept (grownBy_setCell' W (w.heap.size + 1) (.slice none 0 0)) (fun e => by injection e with e; omega)
        have f5 := k1.cell
        have f6 := k1.frozen
        by_cases hx : 1099511627776 < x
        · gi_wp2
          exact ⟨((KeepsOthers.setCell _ _ _).trans (KeepsOthers.setCell _ _ _)).from _, ⟨pre, x, rfl, hx⟩, (hI.r1.set _).kept (grownBy_setCell' _ _ _) (fun e => by injection e with e; omega), k1.set _, (hI.bel.setCell (p := ⟨w.heap.size + 1, 0, none⟩) (by simp) _).setCell (p := ⟨w.heap.size + 1 + 1, 0, none⟩) (by simp; omega) _⟩
        · rw [hkl] at hlt
          have hbs := hI.bel.size
          gi_wp2_with (gi_at_builtin; refine wpListIn_append_own _ rfl _ _ 48 rfl w.heap.size 3 i0 (.int .i64 0) 1 8 hu hi hz0 hz1 hz2 rfl (by decide) _ _ _ rfl (how.alloc _) ⟨W.heap.size, 0, none⟩ 1 1 [.int .i64 x] rfl rfl (cell_one_new _ _ _) (by simp [Value.oneCell']) (by unfold maxLen; omega) (by omega) (by simp; omega) ?_; intro v' w1 hown' hgrow _; obtain ⟨g', cap', rfl⟩ := ownsRow_succ hown'; obtain ⟨hv1, hv2, hr2, hk2, hb2⟩ := hv.appended (by decide) how hbs (by omega) hown' hgrow; have hc1 := hv1.cell; have hf1 := hv1.frozen)
          have hKT : KT w.heap.size W4.heap.size W (w1.setCell ⟨W4.heap.size, 0, none⟩ (.slice (some ⟨g', 0, none⟩) (pre.length + 1) cap')) := by
            refine ⟨hb2, fun q cs t q1 q2 hq => ?_⟩
            have hql := (Array.getElem?_eq_some_iff.1 hq).1
            rw [Below.heap_setCell _ _ _ q (by simpa using q1), hgrow.block q (by rw [World.size_alloc]; omega) (fun e => not_row2 hq q2 how e.symm), Below.heap_alloc _ _ _ hql]
            exact hq
          obtain ⟨sx, sy, hst⟩ := hI.st
          refine ⟨hk2.from _, hKT, ⟨some ⟨g', 0, none⟩, cap', ?_, ?_⟩, ?_, hKT.same _ _ _ (by omega) (by decide) hI.r1, hKT.same _ _ _ (by omega) (by decide) hI.r2, ⟨sx, sy, hKT.same _ _ _ (by omega) (by decide) hst⟩, hI.bel.trans hb2⟩
          · rw [List.length_append]; exact hv2
          · rw [List.length_append, List.map_append]; exact hr2
          · intro z hz
            rcases List.mem_append.1 hz with hz | hz
            · exact hI.all z hz
            · have : z = x := by simpa using hz
              omega
      case done =>
        rintro D ys W hD hS hI hK
        have hys : ys = shUp b r tr tr.length ∧ allT b r tr tr.length = true := by
          rcases hS with e | ⟨j, hj, e, hbig⟩
          · refine ⟨e, allT_iff.2 fun j hj => hI.all _ ?_⟩
            rw [e]
            exact List.mem_map.2 ⟨j, List.mem_range.2 hj, rfl⟩
          · have := hI.all (shN b r tr (j + 1)).1 (by rw [e, shUp_succ]; simp)
            omega
        obtain ⟨A1, c1, hv, how⟩ := hI.row
        have hc := hv.cell
        have f1 := hI.r1.cell
        have f2 := hI.r1.frozen
        have HY := hide hys
        clear hys hS
        obtain ⟨m, hm⟩ : ∃ m, ys.length = m := ⟨_, rfl⟩
        rw [hm] at hv how hc
        have HM := hide hm
        clear hm
        have k1 := hI.r2.kept (grownBy_setCell' W (w.heap.size + 1) (.slice A1 m c1)) (fun e => by injection e with e; omega)
        have f5 := k1.cell
        have f6 := k1.frozen
        have hd1 : some (w.heap.size + 1) ≠ (Value.slice A1 m c1).ownBlock := fun e => not_row2 hI.r1 (by decide) how e.symm
        have hd2 : some (w.heap.size + 1 + 1) ≠ (Value.slice A1 m c1).ownBlock := fun e => not_row2 hI.r2 (by decide) how e.symm
        have ho6 := (how.kept (grownBy_setCell' W (w.heap.size + 1) (.slice A1 m c1)) (.inr hd1.symm)).kept (grownBy_setCell' _ (w.heap.size + 1 + 1) (.int .i64 0)) (.inr hd2.symm)
        have j1 := (hI.r1.set (.slice A1 m c1)).kept (grownBy_setCell' _ (w.heap.size + 1 + 1) (.int .i64 0)) (fun e => by injection e with e; omega)
        have j2 := k1.set (.int .i64 0)
        have hB6 := (hI.bel.setCell (p := ⟨w.heap.size + 1, 0, none⟩) (by simp) (.slice A1 m c1)).setCell (p := ⟨w.heap.size + 1 + 1, 0, none⟩) (by simp; omega) (.int .i64 0)
        have hK' := ((KeepsOthers.setCell W ⟨w.heap.size + 1, 0, none⟩ (.slice A1 m c1)).trans (KeepsOthers.setCell _ ⟨w.heap.size + 1 + 1, 0, none⟩ (.int .i64 0))).same D _ hK rfl
        gi_wp2
        generalize (W.setCell ⟨w.heap.size + 1, 0, none⟩ (.slice A1 m c1)).setCell ⟨w.heap.size + 1 + 1, 0, none⟩ (.int .i64 0) = W6 at *
        have p1 := cells_kept j1 (grownBy_putObj' _ D (.deferred none)) (fun r e => by cases e; exact ⟨_, hK', rfl⟩)
        have p2 := cells_kept j2 (grownBy_putObj' _ D (.deferred none)) (fun r e => by cases e; exact ⟨_, hK', rfl⟩)
        have p3 := cell_at (j := 0) p1 rfl
        have p4 := cell_at (j := 0) p2 rfl
        refine ⟨by simp, .inl ⟨_, _, rfl, run_takeDeferred hK', ?_⟩⟩
        refine ⟨.tuple #[.slice A1 m c1, .int .i64 0], ?_, ?_⟩
        · simp [results, Try.f19, go_sem, p3, p4]
        · have hmk2 : m = k := by rw [← HM.out, HY.out.1, shUp_length]; exact hkl
          subst hmk2
          refine ⟨fun _ => ⟨A1, c1, rfl, ?_, ?_⟩, fun h => absurd (by rw [← hkl]; exact HY.out.2) h⟩
          · have := ownsRow_putObj ho6 (.deferred none) hK' rfl
            rw [HY.out.1, hkl] at this
            exact this
          · exact hB6.trans (belowK_b (w := w) (Nat.le_refl _) W6 D _ _ (by omega) hK' rfl rfl)
      case stop =>
        rintro D pre W hD hS hX hK
        have hno : ¬ allT b r tr k = true := by
          obtain ⟨j, hj, e⟩ := hS
          obtain ⟨ini, x, e2, hx⟩ := hX.last
          rw [shUp_succ, e2] at e
          have : x = (shN b r tr (j + 1)).1 := by have := List.append_inj_right' e rfl; simpa using this
          intro q
          rw [← hkl] at q
          have := allT_iff.1 q j hj
          omega
        have HNO := hide hno
        clear hno hS
        have p1 := cells_kept hX.r1 (grownBy_putObj' _ D (.deferred none)) (fun r e => by cases e; exact ⟨_, hK, rfl⟩)
        have p2 := cells_kept hX.r2 (grownBy_putObj' _ D (.deferred none)) (fun r e => by cases e; exact ⟨_, hK, rfl⟩)
        have p3 := cell_at (j := 0) p1 rfl
        have p4 := cell_at (j := 0) p2 rfl
        gi_wp2
        refine ⟨by simp, .inl ⟨_, _, rfl, run_takeDeferred hK, ?_⟩⟩
        refine ⟨.tuple #[.slice none 0 0, .int .i64 6], ?_, ?_⟩
        · simp [results, Try.f19, go_sem, p3, p4]
        · exact ⟨fun h => absurd h HNO.out, fun _ => ⟨rfl, hX.bel.trans (belowK_b (w := w) (Nat.le_refl _) W D _ _ (by omega) hK rfl rfl)⟩⟩
end Go.Proofs.Ytaekcgapbkmepaa
