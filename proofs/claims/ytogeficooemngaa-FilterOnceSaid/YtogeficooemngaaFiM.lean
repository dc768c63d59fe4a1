/-
  Parts of filter.Pass.
-/
import Derived.Test.YtogeficooemngaaFiK
import Derived.Test.YtogeficooemngaaFlat
namespace Go.Proofs.Ytogeficooemngaa
open Go.RowKit
set_option linter.unusedVariables false
set_option linter.unusedSimpArgs false

theorem tmod_bd {p q : Int} (h : 0 < q) : -q < p.tmod q ∧ p.tmod q < q := by
  have h1 := Int.tmod_lt_of_pos p h
  constructor
  · rcases Int.le_total 0 p with hp | hp
    · have := Int.tmod_nonneg q hp
      omega
    · have := Int.tmod_lt_of_pos (-p) h
      rw [Int.neg_tmod] at this
      omega
  · exact h1
theorem mod_fix {p q : Int} (h : 0 < q) : (p.tmod q + q) % q = p % q := by
  rw [Int.add_emod_right, Int.tmod_def, Int.sub_mul_emod_self_left]
theorem quo_floor {x p : Int} (hp : 0 < p) : (x - x % p).tdiv p = x / p := by
  have e : x - x % p = x / p * p := by
    have := Int.mul_ediv_add_emod x p
    rw [Int.mul_comm]
    omega
  rw [e, Int.mul_tdiv_cancel _ (by omega)]
def polI (port : Int) (lq : List (List Int)) : Int := fnd (sameP port lq) lq.length
def pcol (lq lm : List (List Int)) (k : Nat) (t size : Int) : Int := mkCol (rc lq k 1) (rc lq k 2) (rc lq k 3) (rc lq k 4) (rc lm k 0) (rc lm k 1) (rc lm k 2) (t + 1000) size
def pnew (lq lm : List (List Int)) (k : Nat) (t size : Int) : List Int := [mkL (rc lq k 1) (rc lq k 2) (rc lq k 3) (rc lq k 4) (rc lm k 0) (rc lm k 1) (rc lm k 2) (t + 1000) size, mkC (rc lq k 1) (rc lq k 2) (rc lq k 3) (rc lq k 4) (rc lm k 0) (rc lm k 1) (rc lm k 2) (t + 1000) size, mkP (rc lq k 1) (rc lq k 2) (rc lq k 3) (rc lq k 4) (rc lm k 0) (rc lm k 1) (rc lm k 2) (t + 1000) size]
def psM (lq lm : List (List Int)) (port t size : Int) : List (List Int) × Int :=
  if polI port lq < 0 then (lm, 0) else (lm.set (polI port lq).toNat (pnew lq lm (polI port lq).toNat t size), if pcol lq lm (polI port lq).toNat t size = 2 then 5 else 0)
def psA (la : List (List Int)) (ls : List Int) (port i1 i3 i4 t : Int) : List Int × Int :=
  if regI port i1 i3 la < 0 then (ls, 1)
  else if rc la (regI port i1 i3 la).toNat 2 = 6 then (ls, if rc la (regI port i1 i3 la).toNat 3 < i4 then 2 else 0)
  else if i4 ≠ rc la (regI port i1 i3 la).toNat 3 then (ls, 2)
  else if (t - rc la (regI port i1 i3 la).toNat 5) / rc la (regI port i1 i3 la).toNat 4 < 0 ∨ rc la (regI port i1 i3 la).toNat 6 - rc la (regI port i1 i3 la).toNat 5 < (t - rc la (regI port i1 i3 la).toNat 5) % rc la (regI port i1 i3 la).toNat 4 then (ls, 3)
  else if (t - rc la (regI port i1 i3 la).toNat 5) / rc la (regI port i1 i3 la).toNat 4 ≤ nt ls (regI port i1 i3 la).toNat then (ls, 4)
  else (ls.set (regI port i1 i3 la).toNat ((t - rc la (regI port i1 i3 la).toNat 5) / rc la (regI port i1 i3 la).toNat 4), 0)
def psR (la lq : List (List Int)) (ls : List Int) (lm : List (List Int)) (port i1 i3 i4 t : Int) : List Int × List (List Int) × Int :=
  if i3 ≤ 5 then (ls, psM lq lm port t i4) else ((psA la ls port i1 i3 i4 t).1, lm, (psA la ls port i1 i3 i4 t).2)
def psE (la lq : List (List Int)) (now : Int) (ls : List Int) (lm : List (List Int)) (port i1 i2 i3 i4 i5 t : Int) : Int :=
  if flE la lq now ls lm = 0 then (if 0 ≤ port ∧ port ≤ 47 then (if viB i1 i2 i3 i4 i5 = true then (if now ≤ t ∧ t ≤ 549755813888 then 0 else 2) else 460) else 2) else 430
theorem fnd_ge {p : Nat → Bool} {n : Nat} : -1 ≤ fnd p n := by
  unfold fnd
  cases (List.range n).find? p <;> simp
theorem fnd_pos {p : Nat → Bool} {n : Nat} (h : ¬ fnd p n < 0) : ∃ k : Nat, fnd p n = (k : Int) ∧ k < n ∧ p k = true ∧ ∀ j, j < k → p j = false := by
  cases e : (List.range n).find? p with
  | none => unfold fnd at h; rw [e] at h; simp at h
  | some k =>
    refine ⟨k, by unfold fnd; rw [e]; rfl, ?_⟩
    rw [List.find?_range_eq_some] at e
    exact ⟨by have := e.2.1; simpa using this, e.1, fun j hj => by have := e.2.2 j hj; simpa using this⟩
theorem fnd_neg {p : Nat → Bool} {n : Nat} (h : fnd p n < 0) : ∀ j, j < n → p j = false := by
  intro j hj
  cases e : (List.range n).find? p with
  | none =>
    rw [List.find?_eq_none] at e
    have := e j (List.mem_range.2 hj)
    simpa using this
  | some k => unfold fnd at h; rw [e] at h; simp at h; omega
theorem reg_pos {port i1 i3 : Int} {la : List (List Int)} (h : ¬ regI port i1 i3 la < 0) : ∃ k : Nat, regI port i1 i3 la = (k : Int) ∧ k < la.length ∧ (rc la k 0 = port ∧ rc la k 1 = i1 ∧ rc la k 2 = i3) ∧ ∀ j, j < k → ¬ (rc la j 0 = port ∧ rc la j 1 = i1 ∧ rc la j 2 = i3) := by
  obtain ⟨k, h1, h2, h3, h4⟩ := fnd_pos h
  exact ⟨k, h1, h2, of_decide_eq_true h3, fun j hj => of_decide_eq_false (h4 j hj)⟩
theorem pol_pos {port : Int} {lq : List (List Int)} (h : ¬ polI port lq < 0) : ∃ k : Nat, polI port lq = (k : Int) ∧ k < lq.length ∧ rc lq k 0 = port ∧ ∀ j, j < k → ¬ rc lq j 0 = port := by
  obtain ⟨k, h1, h2, h3, h4⟩ := fnd_pos h
  exact ⟨k, h1, h2, of_decide_eq_true h3, fun j hj => of_decide_eq_false (h4 j hj)⟩
theorem va_k {la lq lm : List (List Int)} {now : Int} {ls : List Int} (h : flE la lq now ls lm = 0) {k : Nat} (hk : k < la.length) : vaP (rc la k 0) (rc la k 1) (rc la k 2) (rc la k 3) (rc la k 4) (rc la k 5) (rc la k 6) := of_decide_eq_true (fl_A (fl_p h) hk).1.1
theorem va_7 {ap ast ac asz ad ae al : Int} (h : vaP ap ast ac asz ad ae al) (h6 : ¬ ac = 6) : ac = 7 ∧ 1 ≤ ad ∧ ad ≤ 2400000 ∧ -1099511627776 ≤ ae ∧ ae ≤ 1099511627776 ∧ -1099511627776 ≤ al ∧ al ≤ 1099511627776 ∧ ae ≤ al ∧ al - ae < ad := by unfold vaP at h; omega
theorem mt_k {la lq lm : List (List Int)} {now : Int} {ls : List Int} (h : flE la lq now ls lm = 0) {k : Nat} (hk : k < lq.length) : mtE (rc lq k 1) (rc lq k 2) (rc lq k 3) (rc lq k 4) (rc lm k 0) (rc lm k 1) (rc lm k 2) = 0 ∧ rc lm k 0 ≤ now + 1000 := (fl_Q (fl_p h) hk).2
theorem mk_k {la lq lm : List (List Int)} {now : Int} {ls : List Int} (h : flE la lq now ls lm = 0) {k : Nat} (hk : k < lq.length) {t size : Int} (ht : now ≤ t ∧ t ≤ 549755813888) (hs : 1 ≤ size ∧ size ≤ 1048576) : mkE (rc lq k 1) (rc lq k 2) (rc lq k 3) (rc lq k 4) (rc lm k 0) (rc lm k 1) (rc lm k 2) (t + 1000) size = 0 := by
  have := mt_k h hk
  unfold mkE
  rw [if_pos this.1, if_neg (by omega)]
theorem vi_bd {i1 i2 i3 i4 i5 : Int} (h : viB i1 i2 i3 i4 i5 = true) : 0 ≤ i3 ∧ i3 ≤ 7 ∧ 84 ≤ i4 ∧ i4 ≤ 1542 := by have := of_decide_eq_true h; unfold viP at this; omega
theorem fimod_w (x p : Int) (w0 : World) (h : (1 ≤ p ∧ p ≤ 2400000) ∧ -4398046511104 ≤ x ∧ x ≤ 4398046511104) :
    Calls Try.prog 57 #[.int .i64 x, .int .i64 p] w0 (Ret w0 (.int .i64 (x % p))) := by
 refine enterK 12 Try.func57 rfl rfl rfl ?_
 intro a hF Q0 hR0 hN0
 have hM := Mem.start w0
 refine wp_seq_k fun K1 hK1 => ?_
 refine wp_region_lit ?_
 refine sB 1 [(4, .int .i64 0)] hF (by kernel_rfl) fun a hF => ?_
 refine wpList_nil ?_
 refine hK1 _ _ ?_
 refine wp_seq_k fun K2 hK2 => ?_
 refine wp_region_lit ?_
 refine sB 2 [(5, .int .i64 x), (6, .int .i64 p)] hF (by kernel_rfl) fun a hF => ?_
 have htm := tmod_bd (p := x) (q := p) (by omega)
 refine wl (eM 7 (v := .int .i64 (x.tmod p)) hF hM (by kernel_rfl) (yld_rem x p hF rfl (by kernel_rfl) (by kernel_rfl) (by kernel_rfl) (by omega) (rfl)) fun a w hF hM => ?_)
 refine sB 1 [(8, .int .i64 p)] hF (by kernel_rfl) fun a hF => ?_
 refine wl (eP 9 (v0 := .int .i64 (IntKind.i64.wrap (x.tmod p + p))) (v := .int .i64 (x.tmod p + p)) hF (by kernel_rfl) (fun _ => by kernel_rfl) (wi (by omega)) fun a hF => ?_)
 refine sB 1 [(10, .int .i64 p)] hF (by kernel_rfl) fun a hF => ?_
 refine wl (eM 11 (v := .int .i64 ((x.tmod p + p) % p)) hF hM (by kernel_rfl) (yld_rem (x.tmod p + p) p hF rfl (by kernel_rfl) (by kernel_rfl) (by kernel_rfl) (by omega) (Int.tmod_eq_emod_of_nonneg (by omega))) fun a w hF hM => ?_)
 have := emod_bd (p := x.tmod p + p) (q := p) (by omega) (by omega)
 refine sB 1 [(4, .int .i64 ((x.tmod p + p) % p))] hF (by kernel_rfl) fun a hF => ?_
 refine wpList_nil ?_
 refine hK2 _ _ ?_
 refine wp_ret ?_
 refine hR0 _ _ ?_
 refine ret_of hF hM (.tmp rfl (.nil)) ?_
 exact ⟨ret_int (mod_fix (by omega)), hM.bel⟩

theorem replI_w (A : Option Addr) (l : List Int) (c k : Nat) (x : Int) (w0 : World) (hA : Ro w0 A (l.map (Value.int .i64))) (hk : k < l.length) (hl : l.length ≤ 100) :
    Calls Try.prog 61 #[.slice A l.length c, .int .i64 (k : Int), .int .i64 x] w0 (RetOwn w0 (fun v => v) 3 1 l.length ((l.set k x).map (Value.int .i64))) := by
 refine enterK 19 Try.func61 rfl rfl rfl ?_
 intro a hF Q0 hR0 hN0
 have hM := Mem.start w0
 replace hM := hM.addOld 1 hA (Nat.le_refl _)
 refine wp_seq_k fun K1 hK1 => ?_
 refine wp_region_lit ?_
 refine sB 1 [(6, .slice none 0 0)] hF (by kernel_rfl) fun a hF => ?_
 refine wpList_nil ?_
 refine hK1 _ _ ?_
 refine wp_seq_k fun K2 hK2 => ?_
 refine wp_region_lit ?_
 refine sB 2 [(8, .slice A l.length c), (9, .int .i64 (l.length : Int))] hF (by kernel_rfl) fun a hF => ?_
 refine wl (sMake 10 2 l.length (e := 3) (size := 1) (bytes := 8) (z := .int .i64 0) ((List.replicate l.length 0).map (Value.int .i64)) hF hM (by kernel_rfl) rfl (by kernel_rfl) (by kernel_rfl) (by kernel_rfl) (by rw [Nat.mul_one, List.map_replicate]; exact toList_madeCells_one _ _) (by omega) (by unfold maxLen; omega) fun bb1 a w hF hM => ?_)
 refine sB 1 [(7, .slice (some ⟨bb1, 0, none⟩) l.length l.length)] hF (by kernel_rfl) fun a hF => ?_
 refine wpList_nil ?_
 refine hK2 _ _ ?_
 refine wp_seq_k fun K3 hK3 => ?_
 refine wp_region_lit ?_
 refine sB 2 [(11, .slice (some ⟨bb1, 0, none⟩) l.length l.length), (12, .slice A l.length c)] hF (by kernel_rfl) fun a hF => ?_
 refine wl (sCopyO 13 2 (e := 3) (size := 1) (bytes := 8) (z := .int .i64 0) (m := l.length) (cap := l.length) (c := c) (news := (l.map (Value.int .i64))) hF hM (by kernel_rfl) rfl (by kernel_rfl) (by kernel_rfl) (by kernel_rfl) rfl rfl (by simp) (roK 1 rfl) (ints_one _ _) fun a w hF hM => ?_)
 refine wpList_nil ?_
 refine hK3 _ _ ?_
 refine wp_seq_k fun K4 hK4 => ?_
 refine wp_region_lit ?_
 refine sB 3 [(14, .slice (some ⟨bb1, 0, none⟩) l.length l.length), (15, .int .i64 (k : Int)), (16, .int .i64 x)] hF (by kernel_rfl) fun a hF => ?_
 refine wl (eM 17 (v := .pointer (some (ea (some ⟨bb1, 0, none⟩) (k)))) hF hM (by kernel_rfl) (yld_ix (kd := .i64) (e := 3) (len := l.length) (cap := l.length) (i := (k : Int)) (size := 1) (A := (some ⟨bb1, 0, none⟩)) hF rfl (by kernel_rfl) (by kernel_rfl) (by kernel_rfl) (by kernel_rfl) (by kernel_rfl) (roO 2 rfl) (by omega) (by omega) (by rw [List.length_map]; omega)) fun a w hF hM => ?_)
 refine wl (sStoreO 2 (j := k) (A := (some ⟨bb1, 0, none⟩)) (((l).set k x).map (Value.int .i64)) hF hM (by kernel_rfl) rfl rfl (by kernel_rfl) (by kernel_rfl) rfl (by kernel_rfl) rfl rfl (by rw [List.length_map]; omega) (map_set' _ _ _ _) fun w hM => ?_)
 refine wpList_nil ?_
 refine hK4 _ _ ?_
 refine wp_seq_k fun K5 hK5 => ?_
 refine wp_region_lit ?_
 refine sB 2 [(18, .slice (some ⟨bb1, 0, none⟩) l.length l.length), (6, .slice (some ⟨bb1, 0, none⟩) l.length l.length)] hF (by kernel_rfl) fun a hF => ?_
 refine wpList_nil ?_
 refine hK5 _ _ ?_
 refine wp_ret ?_
 refine hR0 _ _ ?_
 refine ret_of hF hM (.tmp rfl (.nil)) ?_
 exact ⟨_, _, rfl, hM.ok 2 _ rfl, hM.bel⟩

theorem replM_w (A : Option Addr) (l : List (List Int)) (c k : Nat) (x y z : Int) (w0 : World) (hA : Ro w0 A (flatR l)) (hW : WR 3 l) (hk : k < l.length) (hl : l.length ≤ 100) :
    Calls Try.prog 56 #[.slice A l.length c, .int .i64 (k : Int), .agg #[.int .i64 x, .int .i64 y, .int .i64 z]] w0 (RetOwn w0 (fun v => v) 80 3 l.length (flatR (l.set k [x, y, z]))) := by
 refine enterK 19 Try.func56 rfl rfl rfl ?_
 intro a hF Q0 hR0 hN0
 have hM := Mem.start w0
 replace hM := hM.addOld 1 hA (Nat.le_refl _)
 refine wp_seq_k fun K1 hK1 => ?_
 refine wp_region_lit ?_
 refine wl (eN 5 2 (t := 80) (fun b => .pointer (some ⟨b, 0, none⟩)) #[.int .i64 x, .int .i64 y, .int .i64 z] hF hM (by kernel_rfl) (fun _ => by kernel_rfl) fun bb1 a w hF hM => ?_)
 refine sB 1 [(6, .slice none 0 0)] hF (by kernel_rfl) fun a hF => ?_
 refine wpList_nil ?_
 refine hK1 _ _ ?_
 refine wp_seq_k fun K2 hK2 => ?_
 refine wp_region_lit ?_
 refine sB 2 [(8, .slice A l.length c), (9, .int .i64 (l.length : Int))] hF (by kernel_rfl) fun a hF => ?_
 refine wl (sMake 10 3 l.length (e := 80) (size := 3) (bytes := 24) (z := .agg #[.int .i64 0, .int .i64 0, .int .i64 0]) (flatR (List.replicate l.length (List.replicate 3 0))) hF hM (by kernel_rfl) rfl (by kernel_rfl) (by kernel_rfl) (by kernel_rfl) (made_R 3 l.length (by decide) rfl) (by omega) (by unfold maxLen; omega) fun bb2 a w hF hM => ?_)
 refine sB 1 [(7, .slice (some ⟨bb2, 0, none⟩) l.length l.length)] hF (by kernel_rfl) fun a hF => ?_
 refine wpList_nil ?_
 refine hK2 _ _ ?_
 refine wp_seq_k fun K3 hK3 => ?_
 refine wp_region_lit ?_
 refine sB 2 [(11, .slice (some ⟨bb2, 0, none⟩) l.length l.length), (12, .slice A l.length c)] hF (by kernel_rfl) fun a hF => ?_
 refine wl (sCopyO 13 3 (e := 80) (size := 3) (bytes := 24) (z := .agg #[.int .i64 0, .int .i64 0, .int .i64 0]) (m := l.length) (cap := l.length) (c := c) (news := (flatR l)) hF hM (by kernel_rfl) rfl (by kernel_rfl) (by kernel_rfl) (by kernel_rfl) rfl rfl (by rw [flatR_length hW]) (roK 1 rfl) (flatR_one _) fun a w hF hM => ?_)
 refine wpList_nil ?_
 refine hK3 _ _ ?_
 refine wp_seq_k fun K4 hK4 => ?_
 refine wp_region_lit ?_
 refine sB 2 [(14, .slice (some ⟨bb2, 0, none⟩) l.length l.length), (15, .int .i64 (k : Int))] hF (by kernel_rfl) fun a hF => ?_
 refine wl (eL 16 2 0 (v := .agg #[.int .i64 x, .int .i64 y, .int .i64 z]) hF hM (by kernel_rfl) rfl rfl (by kernel_rfl) (by kernel_rfl) fun a w hF hM => ?_)
 refine wl (eM 17 (v := .pointer (some (ea (some ⟨bb2, 0, none⟩) (k * 3)))) hF hM (by kernel_rfl) (yld_ix (kd := .i64) (e := 80) (len := l.length) (cap := l.length) (i := (k : Int)) (size := 3) (A := (some ⟨bb2, 0, none⟩)) hF rfl (by kernel_rfl) (by kernel_rfl) (by kernel_rfl) (by kernel_rfl) (by kernel_rfl) (roO 3 rfl) (by omega) (by omega) (by rw [flatR_length hW]; (try simp only [List.length_map, List.length_append, List.length_replicate, List.length_set, List.length_cons, List.length_nil, flat2_length, List.length_take]); omega)) fun a w hF hM => ?_)
 refine wl (sStoreOM 3 (j := k * 3) (A := (some ⟨bb2, 0, none⟩)) [.int .i64 x, .int .i64 y, .int .i64 z] (flatR ((l).set k [x, y, z])) hF hM (by kernel_rfl) rfl rfl (by kernel_rfl) (by kernel_rfl) rfl (by kernel_rfl) rfl (by intro u hu; simp only [List.mem_cons, List.not_mem_nil, or_false] at hu; rcases hu with rfl | rfl | rfl <;> rfl) (Nat.succ_pos _) (by rw [flatR_length hW]; (try simp only [List.length_map, List.length_append, List.length_replicate, List.length_set, List.length_cons, List.length_nil, flat2_length, List.length_take]); omega) (flatR_set (k := k) (r := [x, y, z]) hW (by (try simp only [List.length_map, List.length_append, List.length_replicate, List.length_set, List.length_cons, List.length_nil, flat2_length, List.length_take, fillT_len]); omega) rfl) fun w hM => ?_)
 refine wpList_nil ?_
 refine hK4 _ _ ?_
 refine wp_seq_k fun K5 hK5 => ?_
 refine wp_region_lit ?_
 refine sB 2 [(18, .slice (some ⟨bb2, 0, none⟩) l.length l.length), (6, .slice (some ⟨bb2, 0, none⟩) l.length l.length)] hF (by kernel_rfl) fun a hF => ?_
 refine wpList_nil ?_
 refine hK5 _ _ ?_
 refine wp_ret ?_
 refine hR0 _ _ ?_
 refine ret_of hF hM (.tmp rfl (.nil)) ?_
 exact ⟨_, _, rfl, hM.ok 3 _ rfl, hM.bel⟩

set_option maxRecDepth 100000 in
theorem find4_w (port : Int) (B : Nat) (A : Option Addr) (l : List (List Int)) (cl : Nat) (w0 : World) (hA : Ro w0 A (flatR l)) (hW : WR 5 l) (hl : l.length ≤ 64) (hB : Ro w0 (some ⟨B, 0, none⟩) [.int .i64 port]) :
    Calls Try.prog 49 #[.slice A l.length cl, .func (.func 54) #[] #[.pointer (some ⟨B, 0, none⟩)]] w0 (Ret w0 (.int .i64 (polI port l))) := by
 refine enterK 19 Try.func49 rfl rfl rfl ?_
 intro a hF Q0 hR0 hN0
 have hM := Mem.start w0
 replace hM := hM.addOld 1 hA (Nat.le_refl _)
 replace hM := hM.addOld 2 hB (Nat.le_refl _)
 refine wp_seq_k fun K1 hK1 => ?_
 refine wp_region_lit ?_
 refine sB 1 [(4, .int .i64 0)] hF (by kernel_rfl) fun a hF => ?_
 refine wpList_nil ?_
 refine hK1 _ _ ?_
 refine wp_seq_k fun K2 hK2 => ?_
 refine wp_seq_k fun K3 hK3 => ?_
 refine wp_region_lit ?_
 refine sB 3 [(7, .slice A l.length cl), (8, .int .i64 (l.length : Int)), (9, .int .i64 0)] hF (by kernel_rfl) fun a hF => ?_
 refine wpList_nil ?_
 refine hK3 _ _ ?_
 refine wp_block ?_
 refine wp_loop_k (G := Nat) (fun gg a w => Fr 19 [(9, some (.int .i64 (gg : Int))), (1, some (.func (.func 54) #[] #[.pointer (some ⟨B, 0, none⟩)])), (7, some (.slice A l.length cl)), (8, some (.int .i64 (l.length : Int)))] a ∧ Mem w0.heap.size w0 [(1, some (.ro A (flatR l))), (2, some (.ro (some ⟨B, 0, none⟩) [.int .i64 port]))] w ∧ ((gg : Int) ≤ (l.length : Int)) ∧ (∀ j, j < gg → sameP port l j = false)) (fun gg => l.length - gg) (0) ?_ ?_
 ·refine ⟨(((((Fr.nil hF).c hF (i := 8) rfl rfl).c hF (i := 7) rfl rfl).c hF (i := 1) rfl rfl).c hF (i := 9) rfl (vi (show (0 : Int) = (0 : Int) from by omega))), (hM.sub ((Sub.nil.c (k := 2) rfl rfl).c (k := 1) rfl rfl)), (show (0 : Int) ≤ (l.length : Int) from by omega), (show ∀ j, j < 0 → sameP port l j = false from by exact fun j hj => by omega)⟩
 ·intro gg a w hI
  intro K4 hK4
  obtain ⟨k, rfl⟩ : ∃ x, x = gg := ⟨_, rfl⟩
  try dsimp only at hI hK4
  obtain ⟨hF, hM, hz1, hz2⟩ := hI
  refine wp_seq_k fun K5 hK5 => ?_
  refine wp_region_lit ?_
  refine sB 1 [(10, .bool (decide ((k : Int) < (l.length : Int))))] hF (by kernel_rfl) fun a hF => ?_
  refine wpList_nil ?_
  refine hK5 _ _ ?_
  refine wp_seq_k fun K6 hK6 => ?_
  by_cases hz3 : (k : Int) < (l.length : Int)
  ·skip
   replace hF := hF.c hF (i := 10) (v := .bool true) rfl (bT hz3)
   refine cT hF (by kernel_rfl) (by kernel_rfl) ?_
   refine wp_skip ?_
   refine hK6 _ _ ?_
   refine wp_seq_k fun K7 hK7 => ?_
   refine wp_block ?_
   refine wp_seq_k fun K8 hK8 => ?_
   refine wp_region_lit ?_
   refine sB 1 [(11, .int .i64 (k : Int))] hF (by kernel_rfl) fun a hF => ?_
   refine wl (eM 12 (v := .pointer (some (ea A (k * 5)))) hF hM (by kernel_rfl) (yld_ix (kd := .i64) (e := 69) (len := l.length) (cap := cl) (i := (k : Int)) (size := 5) (A := A) hF rfl (by kernel_rfl) (by kernel_rfl) (by kernel_rfl) (by kernel_rfl) (by kernel_rfl) (roK 1 rfl) (by omega) (by omega) (by rw [flatR_length hW]; (try simp only [List.length_map, List.length_append, List.length_replicate, List.length_set, List.length_cons, List.length_nil, flat2_length, List.length_take]); omega)) fun a w hF hM => ?_)
   refine wl (eM 13 (v := .agg #[.int .i64 (rc l k 0), .int .i64 (rc l k 1), .int .i64 (rc l k 2), .int .i64 (rc l k 3), .int .i64 (rc l k 4)]) hF hM (by kernel_rfl) (yld_roM (A := A) (j := k * 5) (us := [.int .i64 (rc l k 0), .int .i64 (rc l k 1), .int .i64 (rc l k 2), .int .i64 (rc l k 3), .int .i64 (rc l k 4)]) hF rfl (by kernel_rfl) (by kernel_rfl) (roK 1 rfl) (by kernel_rfl) rfl (rc_sub (k := k) (f := 0) (m := 5) hW (by omega) (by decide) rfl)) fun a w hF hM => ?_)
   refine wl (eN 6 3 (t := 69) (fun b => .pointer (some ⟨b, 0, none⟩)) #[.int .i64 0, .int .i64 0, .int .i64 0, .int .i64 0, .int .i64 0] hF hM (by kernel_rfl) (fun _ => by kernel_rfl) fun bb1 a w hF hM => ?_)
   refine sB 1 [(5, .int .i64 (k : Int))] hF (by kernel_rfl) fun a hF => ?_
   refine wl (sStore (i := 3) (off := 0) (cs' := #[.int .i64 (rc l k 0), .int .i64 (rc l k 1), .int .i64 (rc l k 2), .int .i64 (rc l k 3), .int .i64 (rc l k 4)]) hF hM (by kernel_rfl) rfl rfl (by kernel_rfl) (by kernel_rfl) rfl (by kernel_rfl) fun w hM => ?_)
   refine wpList_nil ?_
   refine hK8 _ _ ?_
   refine wp_seq_k fun K9 hK9 => ?_
   refine wp_region_lit ?_
   refine sB 1 [(14, .func (.func 54) #[] #[.pointer (some ⟨B, 0, none⟩)])] hF (by kernel_rfl) fun a hF => ?_
   refine wl (eL 15 3 0 (v := .agg #[.int .i64 (rc l k 0), .int .i64 (rc l k 1), .int .i64 (rc l k 2), .int .i64 (rc l k 3), .int .i64 (rc l k 4)]) hF hM (by kernel_rfl) rfl rfl (by kernel_rfl) (by kernel_rfl) fun a w hF hM => ?_)
   refine wl (sC (f := 54) (args := #[.agg #[.int .i64 (rc l k 0), .int .i64 (rc l k 1), .int .i64 (rc l k 2), .int .i64 (rc l k 3), .int .i64 (rc l k 4)], .pointer (some ⟨B, 0, none⟩)]) hF (by kernel_rfl) rfl (by decide) (by kernel_rfl) (fun _ => by kernel_rfl) ?_)
   refine enterK 8 Try.func54 rfl rfl rfl ?_
   intro a1 hF1 QR10 hR10 hNR10
   refine wp_seq_k fun K11 hK11 => ?_
   refine wp_region_lit ?_
   refine wl (eN 2 4 (t := 69) (fun b => .pointer (some ⟨b, 0, none⟩)) #[.int .i64 (rc l k 0), .int .i64 (rc l k 1), .int .i64 (rc l k 2), .int .i64 (rc l k 3), .int .i64 (rc l k 4)] hF1 hM (by kernel_rfl) (fun _ => by kernel_rfl) fun bb2 a1 w hF1 hM => ?_)
   refine sB 1 [(3, .bool false)] hF1 (by kernel_rfl) fun a1 hF1 => ?_
   refine wpList_nil ?_
   refine hK11 _ _ ?_
   refine wp_seq_k fun K12 hK12 => ?_
   refine wp_region_lit ?_
   refine sB 1 [(4, .pointer (some ⟨bb2, 0, none⟩))] hF1 (by kernel_rfl) fun a1 hF1 => ?_
   refine wl (eL 5 4 0 (v := .int .i64 (rc l k 0)) hF1 hM (by kernel_rfl) rfl rfl (by kernel_rfl) (by kernel_rfl) fun a1 w hF1 hM => ?_)
   refine wl (eM 6 (v := .int .i64 port) hF1 hM (by kernel_rfl) (yld_ro1 (A := (some ⟨B, 0, none⟩)) (j := 0) hF1 rfl (by kernel_rfl) (by kernel_rfl) (roK 2 rfl) (by kernel_rfl) rfl) fun a1 w hF1 hM => ?_)
   refine sB 2 [(7, .bool (decide (rc l k 0 = port))), (3, .bool (decide (rc l k 0 = port)))] hF1 (by kernel_rfl) fun a1 hF1 => ?_
   refine wpList_nil ?_
   refine hK12 _ _ ?_
   refine wp_ret ?_
   refine hR10 _ _ ?_
   refine ret_of hF1 hM (.tmp rfl (.nil)) ⟨_, rfl, ?_⟩
   intro a hF
   refine wpList_nil ?_
   refine hK9 _ _ ?_
   by_cases hz4 : rc l k 0 = port
   ·skip
    replace hF := hF.c hF (i := 16) (v := .bool true) rfl (bT hz4)
    refine cT hF (by kernel_rfl) (by kernel_rfl) ?_
    refine wp_seq_k fun K13 hK13 => ?_
    refine wp_region_lit ?_
    refine sB 2 [(17, .int .i64 (k : Int)), (4, .int .i64 (k : Int))] hF (by kernel_rfl) fun a hF => ?_
    refine wpList_nil ?_
    refine hK13 _ _ ?_
    refine wp_ret ?_
    refine hR0 _ _ ?_
    refine ret_of hF hM (.tmp rfl (.nil)) ?_
    exact ⟨ret_int (fnd_some (k := k) (by omega) (decide_eq_true (by omega)) (by assumption)).symm, hM.bel⟩
   ·skip
    replace hF := hF.c hF (i := 16) (v := .bool false) rfl (bF hz4)
    refine cF hF (by kernel_rfl) (by kernel_rfl) ?_
    refine wp_skip ?_
    refine hK7 _ _ ?_
    refine wp_region_lit ?_
    refine wl (eP 18 (v0 := .int .i64 (IntKind.i64.wrap ((k : Int) + 1))) (v := .int .i64 ((k : Int) + 1)) hF (by kernel_rfl) (fun _ => by kernel_rfl) (wi (by omega)) fun a hF => ?_)
    refine sB 1 [(9, .int .i64 ((k : Int) + 1))] hF (by kernel_rfl) fun a hF => ?_
    refine wpList_nil ?_
    refine hK4 _ _ ⟨(k + 1), ⟨(((((Fr.nil hF).c hF (i := 8) rfl rfl).c hF (i := 7) rfl rfl).c hF (i := 1) rfl rfl).c hF (i := 9) rfl (vi (show ((k : Int) + 1 : Int) = ((k + 1) : Int) from by omega))), (hM.sub ((Sub.nil.c (k := 2) rfl rfl).c (k := 1) rfl rfl)), (show ((k + 1) : Int) ≤ (l.length : Int) from by omega), (show ∀ j, j < (k + 1) → sameP port l j = false from by exact no_next (by assumption) (decide_eq_false (by omega)))⟩, (show l.length - (k + 1) < l.length - k from by omega)⟩
  ·skip
   replace hF := hF.c hF (i := 10) (v := .bool false) rfl (bF hz3)
   refine cF hF (by kernel_rfl) (by kernel_rfl) ?_
   refine wp_exit ?_
   refine hK2 _ _ ?_
   refine wp_seq_k fun K14 hK14 => ?_
   refine wp_region_lit ?_
   refine sB 1 [(4, .int .i64 (-1))] hF (by kernel_rfl) fun a hF => ?_
   refine wpList_nil ?_
   refine hK14 _ _ ?_
   refine wp_ret ?_
   refine hR0 _ _ ?_
   refine ret_of hF hM (.tmp rfl (.nil)) ?_
   exact ⟨ret_int (fnd_none (fun j hj => ‹∀ j, j < k → sameP port l j = false› j (by omega))).symm, hM.bel⟩

end Go.Proofs.Ytogeficooemngaa
