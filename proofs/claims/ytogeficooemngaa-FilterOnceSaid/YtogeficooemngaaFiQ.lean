/-
  What Pass gives is valid.
-/
import Derived.Test.YtogeficooemngaaFiN
namespace Go.Proofs.Ytogeficooemngaa
open Go.RowKit
set_option linter.unusedVariables false
set_option linter.unusedSimpArgs false

theorem psM_cases {lq lm : List (List Int)} {port t size : Int} {mm : List (List Int)} {v : Int} (e : psM lq lm port t size = (mm, v)) :
    (polI port lq < 0 ∧ mm = lm ∧ v = 0) ∨ ∃ k : Nat, polI port lq = (k : Int) ∧ k < lq.length ∧ rc lq k 0 = port ∧ mm = lm.set k (pnew lq lm k t size) ∧ v = if pcol lq lm k t size = 2 then 5 else 0 := by
  unfold psM at e
  by_cases h : polI port lq < 0
  · rw [if_pos h] at e
    obtain ⟨rfl, rfl⟩ := Prod.mk.inj e
    exact .inl ⟨h, rfl, rfl⟩
  · rw [if_neg h] at e
    obtain ⟨k, h1, h2, h3, h4⟩ := pol_pos h
    rw [h1, Int.toNat_natCast] at e
    obtain ⟨rfl, rfl⟩ := Prod.mk.inj e
    exact .inr ⟨k, h1, h2, h3, rfl, rfl⟩
theorem psA_cases {la : List (List Int)} {ls l1 : List Int} {port i1 i3 i4 t v : Int} (e : psA la ls port i1 i3 i4 t = (l1, v)) :
    (l1 = ls ∧ (v ≠ 0 ∨ (∃ k : Nat, regI port i1 i3 la = (k : Int) ∧ k < la.length ∧ rc la k 2 = 6 ∧ i4 ≤ rc la k 3))) ∨ ∃ k : Nat, regI port i1 i3 la = (k : Int) ∧ k < la.length ∧ (rc la k 0 = port ∧ rc la k 1 = i1 ∧ rc la k 2 = i3) ∧ ¬ rc la k 2 = 6 ∧ i4 = rc la k 3 ∧ 0 ≤ (t - rc la k 5) / rc la k 4 ∧ (t - rc la k 5) % rc la k 4 ≤ rc la k 6 - rc la k 5 ∧ nt ls k < (t - rc la k 5) / rc la k 4 ∧ l1 = ls.set k ((t - rc la k 5) / rc la k 4) ∧ v = 0 := by
  unfold psA at e
  by_cases h : regI port i1 i3 la < 0
  · rw [if_pos h] at e
    obtain ⟨rfl, rfl⟩ := Prod.mk.inj e
    exact .inl ⟨rfl, .inl (by decide)⟩
  · rw [if_neg h] at e
    obtain ⟨k, h1, h2, h3, h4⟩ := reg_pos h
    rw [h1, Int.toNat_natCast] at e
    split at e
    · rename_i h6
      obtain ⟨rfl, rfl⟩ := Prod.mk.inj e
      refine .inl ⟨rfl, ?_⟩
      split
      · exact .inl (by decide)
      · exact .inr ⟨k, h1, h2, h6, by omega⟩
    · split at e
      · obtain ⟨rfl, rfl⟩ := Prod.mk.inj e
        exact .inl ⟨rfl, .inl (by decide)⟩
      · split at e
        · obtain ⟨rfl, rfl⟩ := Prod.mk.inj e
          exact .inl ⟨rfl, .inl (by decide)⟩
        · split at e
          · obtain ⟨rfl, rfl⟩ := Prod.mk.inj e
            exact .inl ⟨rfl, .inl (by decide)⟩
          · obtain ⟨rfl, rfl⟩ := Prod.mk.inj e
            exact .inr ⟨k, h1, h2, h3, by assumption, by omega, by omega, by omega, by omega, rfl, rfl⟩
theorem psR_cases {la lq : List (List Int)} {ls : List Int} {lm : List (List Int)} {port i1 i3 i4 t : Int} {l1 : List Int} {m1 : List (List Int)} {v : Int} (e : psR la lq ls lm port i1 i3 i4 t = (l1, m1, v)) :
    (i3 ≤ 5 ∧ l1 = ls ∧ psM lq lm port t i4 = (m1, v)) ∨ (¬ i3 ≤ 5 ∧ m1 = lm ∧ psA la ls port i1 i3 i4 t = (l1, v)) := by
  unfold psR at e
  by_cases h : i3 ≤ 5
  · rw [if_pos h] at e
    have e1 := Prod.mk.inj e
    exact .inl ⟨h, e1.1.symm, e1.2⟩
  · rw [if_neg h] at e
    have e1 := Prod.mk.inj e
    have e2 := Prod.mk.inj e1.2
    exact .inr ⟨h, e2.1.symm, Prod.ext e1.1 e2.2⟩
theorem psR_len {la lq : List (List Int)} {ls : List Int} {lm : List (List Int)} {port i1 i3 i4 t : Int} {l1 : List Int} {m1 : List (List Int)} {v : Int} (e : psR la lq ls lm port i1 i3 i4 t = (l1, m1, v)) : ls.length = l1.length ∧ lm.length = m1.length := by
  rcases psR_cases e with ⟨_, rfl, e'⟩ | ⟨_, rfl, e'⟩
  · rcases psM_cases e' with ⟨_, rfl, _⟩ | ⟨k, _, _, _, rfl, _⟩ <;> simp
  · rcases psA_cases e' with ⟨rfl, _⟩ | ⟨k, _, _, _, _, _, _, _, _, rfl, _⟩ <;> simp
theorem psR_wr {la lq : List (List Int)} {ls : List Int} {lm : List (List Int)} {port i1 i3 i4 t : Int} {l1 : List Int} {m1 : List (List Int)} {v : Int} (e : psR la lq ls lm port i1 i3 i4 t = (l1, m1, v)) (h : WR 3 lm) : WR 3 m1 := by
  rcases psR_cases e with ⟨_, rfl, e'⟩ | ⟨_, rfl, e'⟩
  · rcases psM_cases e' with ⟨_, rfl, _⟩ | ⟨k, _, _, _, rfl, _⟩
    · exact h
    · exact h.set rfl
  · exact h
theorem rc_set {l : List (List Int)} {k j i : Nat} {r : List Int} (hk : k < l.length) : rc (l.set k r) j i = if j = k then r.getD i 0 else rc l j i := by
  unfold rc
  by_cases e : j = k
  · subst e; simp [hk]
  · rw [List.getElem?_set_ne (by omega), if_neg e]
theorem nt_set {l : List Int} {k j : Nat} {x : Int} (hk : k < l.length) : nt (l.set k x) j = if j = k then x else nt l j := by
  unfold nt
  by_cases e : j = k
  · subst e; simp [List.getD_eq_getElem?_getD, hk]
  · simp [List.getD_eq_getElem?_getD, List.getElem?_set_ne (show k ≠ j by omega), e]
theorem fl_mono {la lq : List (List Int)} {now t : Int} {ls : List Int} {lm : List (List Int)} (h : flE la lq now ls lm = 0) (ht : now ≤ t ∧ t ≤ 549755813888) : flE la lq t ls lm = 0 := by
  obtain ⟨h1, h2, h3, h4, h5⟩ := fl_p h
  refine (fl_0 ⟨h1, by omega, h3, h4, fun k hk => ?_⟩).symm
  have := h5 k hk
  unfold okM at *
  exact ⟨this.1, by omega⟩
theorem psR_ok {la lq : List (List Int)} {now : Int} {ls : List Int} {lm : List (List Int)} {port i1 i2 i3 i4 i5 t : Int} {l1 : List Int} {m1 : List (List Int)} {v : Int} (h : flE la lq now ls lm = 0) (hv : viB i1 i2 i3 i4 i5 = true) (ht : now ≤ t ∧ t ≤ 549755813888) (e : psR la lq ls lm port i1 i3 i4 t = (l1, m1, v)) : flE la lq t l1 m1 = 0 := by
  have hvi := vi_bd hv
  have hln := fl_len (fl_p h)
  obtain ⟨h1, h2, h3, h4, h5⟩ := fl_p (fl_mono h ht)
  obtain ⟨q1, q2⟩ := psR_len e
  rcases psR_cases e with ⟨_, rfl, e'⟩ | ⟨_, rfl, e'⟩
  · rcases psM_cases e' with ⟨_, rfl, _⟩ | ⟨k, hp, hk, _, rfl, _⟩
    · exact fl_mono h ht
    · refine (fl_0 ⟨h1, h2, by omega, h4, fun j hj => ?_⟩).symm
      have hj5 := h5 j hj
      unfold okM at hj5 ⊢
      rw [rc_set (by omega), rc_set (by omega), rc_set (by omega)]
      by_cases ej : j = k
      · subst ej
        rw [if_pos rfl, if_pos rfl, if_pos rfl]
        have hmk := mk_k h hk ht (size := i4) (by omega)
        have hb := mk_bd hmk
        have hL : mkL (rc lq j 1) (rc lq j 2) (rc lq j 3) (rc lq j 4) (rc lm j 0) (rc lm j 1) (rc lm j 2) (t + 1000) i4 = t + 1000 := by unfold mkL; rw [if_pos hmk]
        obtain ⟨b1, b2, b3, b4, b5⟩ := mkE_ok hmk
        have b6 := mtE_ok b1
        refine ⟨mtE_zero b6.1 ?_ ?_ ?_, ?_⟩ <;> simp only [pnew, List.getD_cons_zero, List.getD_cons_succ] <;> omega
      · rw [if_neg ej, if_neg ej, if_neg ej]
        exact hj5
  · rcases psA_cases e' with ⟨rfl, _⟩ | ⟨k, _, hk, _, h6, _, hp, _, hn, rfl, _⟩
    · exact fl_mono h ht
    · refine (fl_0 ⟨h1, h2, by omega, fun j hj => ?_, h5⟩).symm
      have hj4 := h4 j hj
      unfold okL at hj4 ⊢
      rw [nt_set (by omega)]
      by_cases ej : j = k
      · subst ej
        rw [if_pos rfl]
        exact ⟨by omega, fun q => absurd q h6⟩
      · rw [if_neg ej]
        exact hj4
theorem flB_no {la lq lm : List (List Int)} {now : Int} {ls : List Int} (h : ¬ flE la lq now ls lm = 0) : frB la lq now ls lm = false := (fr_no fun z => h (fl_0 z).symm).symm
theorem flB_yes {la lq lm : List (List Int)} {now : Int} {ls : List Int} (h : flE la lq now ls lm = 0) : frB la lq now ls lm = true := (fr_yes (fl_p h)).symm
theorem same_refl (la lq : List (List Int)) (now : Int) (ls : List Int) (lm : List (List Int)) : sameF la lq now ls lm la lq now ls lm = true := decide_eq_true ⟨rfl, rfl, rfl, rfl, rfl⟩
theorem calls_bool {P : Program} {f : FuncId} {args : Array Value} {w : World} {b c : Bool} (h : b = c) (q : Calls P f args w (Ret w (.bool b))) : Calls P f args w (Ret w (.bool c)) := h ▸ q
theorem calls_val {P : Program} {f : FuncId} {args : Array Value} {w : World} {u v : Value} (h : u = v) (q : Calls P f args w (Ret w u)) : Calls P f args w (Ret w v) := h ▸ q
theorem fn_430 {la lq : List (List Int)} {now : Int} {ls : List Int} {lm : List (List Int)} {port i1 i2 i3 i4 i5 : Int} (h : ¬ flE la lq now ls lm = 0) : Value.tuple #[.int .i64 (fnV la lq now ls lm port i1 i2 i3 i4 i5), .int .i64 (fnE la lq now ls lm i1 i2 i3 i4 i5)] = .tuple #[.int .i64 0, .int .i64 430] := by
  have he : fnE la lq now ls lm i1 i2 i3 i4 i5 = 430 := by unfold fnE; rw [if_neg h]
  unfold fnV; rw [he]; rfl
theorem fn_460 {la lq : List (List Int)} {now : Int} {ls : List Int} {lm : List (List Int)} {port i1 i2 i3 i4 i5 : Int} (h : flE la lq now ls lm = 0) (hv : viB i1 i2 i3 i4 i5 = false) : Value.tuple #[.int .i64 (fnV la lq now ls lm port i1 i2 i3 i4 i5), .int .i64 (fnE la lq now ls lm i1 i2 i3 i4 i5)] = .tuple #[.int .i64 0, .int .i64 460] := by
  have he : fnE la lq now ls lm i1 i2 i3 i4 i5 = 460 := by unfold fnE; rw [if_pos h, hv]; rfl
  unfold fnV; rw [he]; rfl
theorem fn_ok {la lq : List (List Int)} {now : Int} {ls : List Int} {lm : List (List Int)} {port i1 i2 i3 i4 i5 : Int} (h : flE la lq now ls lm = 0) (hv : viB i1 i2 i3 i4 i5 = true) : Value.tuple #[.int .i64 (fnV la lq now ls lm port i1 i2 i3 i4 i5), .int .i64 (fnE la lq now ls lm i1 i2 i3 i4 i5)] = .tuple #[.int .i64 (regI port i1 i3 la), .int .i64 0] := by
  have he : fnE la lq now ls lm i1 i2 i3 i4 i5 = 0 := by unfold fnE; rw [if_pos h, hv]; rfl
  unfold fnV; rw [he]; rfl
theorem ps_430 {la lq : List (List Int)} {now : Int} {ls : List Int} {lm : List (List Int)} {port i1 i2 i3 i4 i5 t : Int} (h : ¬ flE la lq now ls lm = 0) : psE la lq now ls lm port i1 i2 i3 i4 i5 t = 430 := by unfold psE; rw [if_neg h]
theorem ps_port {la lq : List (List Int)} {now : Int} {ls : List Int} {lm : List (List Int)} {port i1 i2 i3 i4 i5 t : Int} (h : flE la lq now ls lm = 0) (hp : ¬ (0 ≤ port ∧ port ≤ 47)) : psE la lq now ls lm port i1 i2 i3 i4 i5 t = 2 := by unfold psE; rw [if_pos h, if_neg hp]
theorem ps_460 {la lq : List (List Int)} {now : Int} {ls : List Int} {lm : List (List Int)} {port i1 i2 i3 i4 i5 t : Int} (h : flE la lq now ls lm = 0) (hp : 0 ≤ port ∧ port ≤ 47) (hv : viB i1 i2 i3 i4 i5 = false) : psE la lq now ls lm port i1 i2 i3 i4 i5 t = 460 := by unfold psE; rw [if_pos h, if_pos hp, hv]; rfl
theorem ps_time {la lq : List (List Int)} {now : Int} {ls : List Int} {lm : List (List Int)} {port i1 i2 i3 i4 i5 t : Int} (h : flE la lq now ls lm = 0) (hp : 0 ≤ port ∧ port ≤ 47) (hv : viB i1 i2 i3 i4 i5 = true) (ht : ¬ (now ≤ t ∧ t ≤ 549755813888)) : psE la lq now ls lm port i1 i2 i3 i4 i5 t = 2 := by unfold psE; rw [if_pos h, if_pos hp, if_pos hv, if_neg ht]
theorem ps_err {P : Program} {f : FuncId} {args : Array Value} {w : World} {z x : Value} {e c : Int} (he : e = c) (hc : c ≠ 0) (q : ¬ e = 0 → Calls P f args w (Ret w (.tuple #[z, x, .int .i64 e]))) : Calls P f args w (Ret w (.tuple #[z, x, .int .i64 c])) := he ▸ q (he ▸ hc)
theorem freeOr {B : Nat} {w0 w : World} {L : List (Nat × Option Ent)} {A : Option Addr} {xs ys : List Value} (hM : Mem B w0 L w) {k : Nat} (h : look k L = some (.ro A ys)) (hl : ys.length = 0 → xs.length = 0) : xs = [] ∨ Free L A := by
  cases ys with
  | nil => exact .inl (List.length_eq_zero_iff.1 (hl rfl))
  | cons y t => exact .inr (hM.free h)
theorem fiFind_x (A : Option Addr) (la : List (List Int)) (ca : Nat) (A2 : Option Addr) (lq : List (List Int)) (cq_ : Nat) (now : Int) (A3 : Option Addr) (ls : List Int) (cs : Nat) (A4 : Option Addr) (lm : List (List Int)) (cm : Nat) (port i1 i2 i3 i4 i5 : Int) (w0 : World) (hA : Ro w0 A (flatR la)) (hW : WR 7 la) (hA2 : Ro w0 A2 (flatR lq)) (hW2 : WR 5 lq) (hA3 : Ro w0 A3 (ls.map (Value.int .i64))) (hA4 : Ro w0 A4 (flatR lm)) (hW4 : WR 3 lm)  {n1 n2 n3 n4 : Nat} (q1 : la.length = n1) (q2 : lq.length = n2) (q3 : ls.length = n3) (q4 : lm.length = n4) : Calls Try.prog 16 #[.agg #[.slice A n1 ca, .slice A2 n2 cq_, .int .i64 now, .slice A3 n3 cs, .slice A4 n4 cm], .int .i64 port, .agg #[.int .i64 i1, .int .i64 i2, .int .i64 i3, .int .i64 i4, .int .i64 i5]] w0 (Ret w0 (.tuple #[.int .i64 (fnV la lq now ls lm port i1 i2 i3 i4 i5), .int .i64 (fnE la lq now ls lm i1 i2 i3 i4 i5)])) := by
  subst q1 q2 q3 q4
  exact fiFind_w A la ca A2 lq cq_ now A3 ls cs A4 lm cm port i1 i2 i3 i4 i5 w0 hA hW hA2 hW2 hA3 hA4 hW4 
theorem same33_x (A : Option Addr) (la : List (List Int)) (ca : Nat) (A2 : Option Addr) (lq : List (List Int)) (cq_ : Nat) (now : Int) (A3 : Option Addr) (ls : List Int) (cs : Nat) (A4 : Option Addr) (lm : List (List Int)) (cm : Nat) (E1 : Option Addr) (ka : List (List Int)) (da : Nat) (E2 : Option Addr) (kq : List (List Int)) (dq_ : Nat) (know : Int) (E3 : Option Addr) (ks : List Int) (ds : Nat) (E4 : Option Addr) (km : List (List Int)) (dm : Nat) (w0 : World) (hA : Ro w0 A (flatR la)) (hW : WR 7 la) (hA2 : Ro w0 A2 (flatR lq)) (hW2 : WR 5 lq) (hA3 : Ro w0 A3 (ls.map (Value.int .i64))) (hA4 : Ro w0 A4 (flatR lm)) (hW4 : WR 3 lm) (gA : Ro w0 E1 (flatR ka)) (gW : WR 7 ka) (gA2 : Ro w0 E2 (flatR kq)) (gW2 : WR 5 kq) (gA3 : Ro w0 E3 (ks.map (Value.int .i64))) (gA4 : Ro w0 E4 (flatR km)) (gW4 : WR 3 km) (hl : la.length ≤ 100 ∧ lq.length ≤ 100 ∧ ls.length ≤ 100 ∧ lm.length ≤ 100) {n1 n2 n3 n4 m1 m2 m3 m4 : Nat} (q1 : la.length = n1) (q2 : lq.length = n2) (q3 : ls.length = n3) (q4 : lm.length = n4) (p1 : ka.length = m1) (p2 : kq.length = m2) (p3 : ks.length = m3) (p4 : km.length = m4) : Calls Try.prog 15 #[.agg #[.slice A n1 ca, .slice A2 n2 cq_, .int .i64 now, .slice A3 n3 cs, .slice A4 n4 cm], .agg #[.slice E1 m1 da, .slice E2 m2 dq_, .int .i64 know, .slice E3 m3 ds, .slice E4 m4 dm]] w0 (Ret w0 (.bool (sameF la lq now ls lm ka kq know ks km))) := by
  subst q1 q2 q3 q4 p1 p2 p3 p4
  exact same33_w A la ca A2 lq cq_ now A3 ls cs A4 lm cm E1 ka da E2 kq dq_ know E3 ks ds E4 km dm w0 hA hW hA2 hW2 hA3 hA4 hW4 gA gW gA2 gW2 gA3 gA4 gW4 hl
theorem frame_w (x y z : Int) (w0 : World) :
    Calls Try.prog 25 #[.int .i64 x, .int .i64 y, .int .i64 z] w0 (Ret w0 (.agg #[.int .i64 x, .int .i64 0, .int .i64 y, .int .i64 z, .int .i64 0])) := by
 refine enterK 11 Try.func25 rfl rfl rfl ?_
 intro a hF Q0 hR0 hN0
 have hM := Mem.start w0
 refine wp_seq_k fun K1 hK1 => ?_
 refine wp_region_lit ?_
 refine wl (eN 6 1 (t := 39) (fun b => .pointer (some ⟨b, 0, none⟩)) #[.int .i64 0, .int .i64 0, .int .i64 0, .int .i64 0, .int .i64 0] hF hM (by kernel_rfl) (fun _ => by kernel_rfl) fun bb1 a w hF hM => ?_)
 refine wpList_nil ?_
 refine hK1 _ _ ?_
 refine wp_seq_k fun K2 hK2 => ?_
 refine wp_region_lit ?_
 refine sB 4 [(7, .int .i64 x), (8, .int .i64 y), (9, .int .i64 z), (10, .agg #[.int .i64 x, .int .i64 0, .int .i64 y, .int .i64 z, .int .i64 0])] hF (by kernel_rfl) fun a hF => ?_
 refine wl (sStore (i := 1) (off := 0) (cs' := #[.int .i64 x, .int .i64 0, .int .i64 y, .int .i64 z, .int .i64 0]) hF hM (by kernel_rfl) rfl rfl (by kernel_rfl) (by kernel_rfl) rfl (by kernel_rfl) fun w hM => ?_)
 refine wpList_nil ?_
 refine hK2 _ _ ?_
 refine wp_ret ?_
 refine hR0 _ _ ?_
 refine ret_of hF hM (.cell (i := 1) rfl rfl (v := .agg #[.int .i64 x, .int .i64 0, .int .i64 y, .int .i64 z, .int .i64 0]) (by kernel_rfl) (.nil)) ?_
 exact ⟨rfl, hM.bel⟩

end Go.Proofs.Ytogeficooemngaa
