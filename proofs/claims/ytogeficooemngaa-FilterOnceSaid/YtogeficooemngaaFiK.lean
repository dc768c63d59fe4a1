/-
  filter.New.
-/
import Derived.Test.YtogeficooemngaaFiJ
namespace Go.Proofs.Ytogeficooemngaa
open Go.RowKit
set_option linter.unusedVariables false
set_option linter.unusedSimpArgs false

def fillT {α : Type} (f : Nat → α) (z : α) (n k : Nat) : List α := (List.range n).map fun i => if i < k then f i else z
theorem fillT_len {α : Type} {f : Nat → α} {z : α} {n k : Nat} : (fillT f z n k).length = n := by simp [fillT]
theorem fillT_zero {α : Type} (f : Nat → α) (z : α) (n : Nat) : List.replicate n z = fillT f z n 0 := by
  apply List.ext_getElem?
  intro i
  by_cases hi : i < n
  · simp [fillT, hi]
  · simp [fillT, hi]
theorem fillT_set {α : Type} (f : Nat → α) (z : α) {n k : Nat} (hk : k < n) {x : α} (hx : x = f k) : (fillT f z n k).set k x = fillT f z n (k + 1) := by
  subst hx
  apply List.ext_getElem?
  intro i
  by_cases hi : i < n
  · by_cases e : k = i
    · subst e
      simp [fillT, hk]
    · rw [List.getElem?_set_ne e]
      simp only [fillT, List.getElem?_map, List.getElem?_range hi, Option.map_some]
      by_cases h : i < k
      · simp [h, show i < k + 1 by omega]
      · simp [h, show ¬ i < k + 1 by omega]
  · simp [fillT, List.getElem?_eq_none, hi]
theorem fillT_get {α : Type} {f : Nat → α} {z : α} {n k i : Nat} (hi : i < n) (hk : i < k) : (fillT f z n k)[i]? = some (f i) := by simp [fillT, hi, hk]
theorem fillT_snoc {α : Type} (f : Nat → α) (z : α) (k : Nat) {x : α} (hx : x = f k) : fillT f z k k ++ [x] = fillT f z (k + 1) (k + 1) := by
  subst hx
  have e : ∀ n, fillT f z n n = (List.range n).map f := fun n => List.map_congr_left fun i hi => if_pos (List.mem_range.1 hi)
  rw [e, e, List.range_succ, List.map_append]
  rfl
theorem fillT_wr {f : Nat → List Int} {z : List Int} {n k s : Nat} (hf : ∀ i, (f i).length = s) (hz : z.length = s) : WR s (fillT f z n k) := fun x hx => by
  simp only [fillT, List.mem_map] at hx
  obtain ⟨i, _, rfl⟩ := hx
  split
  · exact hf i
  · exact hz
def mOf (lq : List (List Int)) (k : Nat) : List Int := [0, rc lq k 1 * 1048576, rc lq k 3 * 1048576]
theorem mOf_len (lq : List (List Int)) : ∀ i, (mOf lq i).length = 3 := fun _ => rfl
def nwL (la : List (List Int)) : List Int := fillT (fun _ => (-1 : Int)) 0 la.length la.length
def nwM (lq : List (List Int)) : List (List Int) := fillT (mOf lq) [0, 0, 0] lq.length lq.length
theorem nwL_len {la : List (List Int)} : (nwL la).length = la.length := fillT_len
theorem nwM_len {lq : List (List Int)} : (nwM lq).length = lq.length := fillT_len
theorem nwM_wr {lq : List (List Int)} : WR 3 (nwM lq) := fillT_wr (mOf_len lq) rfl
theorem nwL_nt {la : List (List Int)} {k : Nat} (hk : k < la.length) : nt (nwL la) k = -1 := by
  unfold nt nwL
  simp [List.getD_eq_getElem?_getD, fillT_get hk hk]
theorem nwM_rc {lq : List (List Int)} {k j : Nat} (hk : k < lq.length) : rc (nwM lq) k j = (mOf lq k).getD j 0 := by
  unfold rc nwM
  rw [fillT_get hk hk]
  rfl
theorem newE_mt {cb cr pb ps : Int} (h : newE cb cr pb ps = 0) : mtE cb cr pb ps 0 (cb * 1048576) (pb * 1048576) = 0 := by
  have := newE_ok h
  unfold mtE
  rw [h]
  simp
  omega
theorem li_q {la lq : List (List Int)} (h : liB la lq = true) {k : Nat} (hk : k < lq.length) : newE (rc lq k 1) (rc lq k 2) (rc lq k 3) (rc lq k 4) = 0 := by
  have h1 := ((of_decide_eq_true h).2.2.2 k hk).1
  unfold vp5 vpB at h1
  exact (of_decide_eq_true h1).2.2
theorem fl_new {la lq : List (List Int)} (h : liB la lq = true) : flE la lq (-1000) (nwL la) (nwM lq) = 0 := by
  unfold flE
  rw [if_pos]
  refine ⟨h, by omega, ⟨nwL_len, nwM_len⟩, fun k hk => ?_, fun k hk => ?_⟩
  · unfold okL
    rw [nwL_nt hk]
    exact ⟨by omega, fun _ => rfl⟩
  · unfold okM
    rw [nwM_rc hk, nwM_rc hk, nwM_rc hk]
    exact ⟨newE_mt (li_q h hk), by simp [mOf]⟩
section
theorem Mem.ownNew {B k e size m cap : Nat} {w0 w : World} {L : List (Nat × Option Ent)} {A A3 : Option Addr} {xs : List Value} (hM : Mem B w0 L w) (h : look k L = some (.own (.slice A m cap) e size m xs)) : Ro w A xs ∧ (A = A3 ∨ ∀ b, (Ent.ro A xs).blk = some b → B ≤ b) :=
  ⟨ro_of_own (hM.ok k _ h), .inr fun b hb => by
    have ho : w.ownsRow B e size (.slice A m cap) m xs := hM.ok k _ h
    refine (own_lt ho ?_).1
    cases xs with
    | nil => cases hb
    | cons x t =>
      cases A with
      | none => cases hb
      | some a => exact hb⟩
theorem Mem.roSame {B k : Nat} {w0 w : World} {L : List (Nat × Option Ent)} {A : Option Addr} {xs : List Value} (hM : Mem B w0 L w) (h : look k L = some (.ro A xs)) : Ro w A xs ∧ (A = A ∨ ∀ b, (Ent.ro A xs).blk = some b → B ≤ b) := ⟨hM.ok k _ h, .inl rfl⟩
end
theorem fiCheck_x (A : Option Addr) (la : List (List Int)) (ca : Nat) (A2 : Option Addr) (lq : List (List Int)) (cq_ : Nat) (now : Int) (A3 : Option Addr) (ls : List Int) (cs : Nat) (A4 : Option Addr) (lm : List (List Int)) (cm : Nat)  (w0 : World) (hA : Ro w0 A (flatR la)) (hW : WR 7 la) (hA2 : Ro w0 A2 (flatR lq)) (hW2 : WR 5 lq) (hA3 : Ro w0 A3 (ls.map (Value.int .i64))) (hA4 : Ro w0 A4 (flatR lm)) (hW4 : WR 3 lm)  {n1 n2 n3 n4 : Nat} (q1 : la.length = n1) (q2 : lq.length = n2) (q3 : ls.length = n3) (q4 : lm.length = n4) : Calls Try.prog 12 #[.agg #[.slice A n1 ca, .slice A2 n2 cq_, .int .i64 now, .slice A3 n3 cs, .slice A4 n4 cm]] w0 (Ret w0 (.int .i64 (flE la lq now ls lm))) := by
  subst q1 q2 q3 q4
  exact fiCheck_w A la ca A2 lq cq_ now A3 ls cs A4 lm cm  w0 hA hW hA2 hW2 hA3 hA4 hW4 
set_option maxRecDepth 100000 in
theorem fiNew_no (A : Option Addr) (la : List (List Int)) (ca : Nat) (A2 : Option Addr) (lq : List (List Int)) (cq_ : Nat) (w0 : World) (hA : Ro w0 A (flatR la)) (hW : WR 7 la) (hA2 : Ro w0 A2 (flatR lq)) (hW2 : WR 5 lq) (h : liB la lq = false) :
    Calls Try.prog 13 #[.slice A la.length ca, .slice A2 lq.length cq_] w0 (Ret w0 (.tuple #[.agg #[.slice none 0 0, .slice none 0 0, .int .i64 0, .slice none 0 0, .slice none 0 0], .int .i64 2])) := by
 refine enterK 62 Try.func13 rfl rfl rfl ?_
 intro a hF Q0 hR0 hN0
 have hM := Mem.start w0
 replace hM := hM.addOld 1 hA (Nat.le_refl _)
 replace hM := hM.addOld 2 hA2 (Nat.le_refl _)
 refine wp_seq_k fun K1 hK1 => ?_
 refine wp_region_lit ?_
 refine wl (eN 4 3 (t := 27) (fun b => .pointer (some ⟨b, 0, none⟩)) #[.slice none 0 0, .slice none 0 0, .int .i64 0, .slice none 0 0, .slice none 0 0] hF hM (by kernel_rfl) (fun _ => by kernel_rfl) fun bb1 a w hF hM => ?_)
 refine sB 1 [(5, .int .i64 0)] hF (by kernel_rfl) fun a hF => ?_
 refine wpList_nil ?_
 refine hK1 _ _ ?_
 refine wp_seq_k fun K2 hK2 => ?_
 refine wp_seq_k fun K3 hK3 => ?_
 refine wp_region_lit ?_
 refine sB 2 [(10, .slice A la.length ca), (11, .slice A2 lq.length cq_)] hF (by kernel_rfl) fun a hF => ?_
 refine wl (eM 12 (v := .bool false) hF hM (by kernel_rfl) (Yld.to (yld_call (f := 30) (args := #[.slice A la.length ca, .slice A2 lq.length cq_]) hF (by kernel_rfl) (fun _ => by kernel_rfl) (fun w hM => listed_w A la _ A2 lq _ w (hM.ok 1 _ rfl) hW (hM.ok 2 _ rfl) hW2)) (congrArg Value.bool h)) fun a w hF hM => ?_)
 refine sB 1 [(13, .bool true)] hF (by kernel_rfl) fun a hF => ?_
 refine wpList_nil ?_
 refine hK3 _ _ ?_
 refine cT hF (by kernel_rfl) (by kernel_rfl) ?_
 refine wp_seq_k fun K4 hK4 => ?_
 refine wp_region_lit ?_
 refine sB 1 [(14, .agg #[.slice none 0 0, .slice none 0 0, .int .i64 0, .slice none 0 0, .slice none 0 0])] hF (by kernel_rfl) fun a hF => ?_
 refine wl (sStore (i := 3) (off := 0) (cs' := #[.slice none 0 0, .slice none 0 0, .int .i64 0, .slice none 0 0, .slice none 0 0]) hF hM (by kernel_rfl) rfl rfl (by kernel_rfl) (by kernel_rfl) rfl (by kernel_rfl) fun w hM => ?_)
 refine sB 1 [(5, .int .i64 2)] hF (by kernel_rfl) fun a hF => ?_
 refine wpList_nil ?_
 refine hK4 _ _ ?_
 refine wp_ret ?_
 refine hR0 _ _ ?_
 refine ret_of hF hM (.cell (i := 3) rfl rfl (v := .agg #[.slice none 0 0, .slice none 0 0, .int .i64 0, .slice none 0 0, .slice none 0 0]) (by kernel_rfl) (.tmp rfl (.nil))) ?_
 exact ⟨rfl, hM.bel⟩

set_option maxRecDepth 100000 in
set_option maxHeartbeats 4000000 in
theorem fiNew_ok (A : Option Addr) (la : List (List Int)) (ca : Nat) (A2 : Option Addr) (lq : List (List Int)) (cq_ : Nat) (w0 : World) (hA : Ro w0 A (flatR la)) (hW : WR 7 la) (hA2 : Ro w0 A2 (flatR lq)) (hW2 : WR 5 lq) (h : liB la lq = true) {ls : List Int} {lm : List (List Int)} {n3 n4 : Nat} (e1 : nwL la = ls) (e2 : nwM lq = lm) (e3 : la.length = n3) (e4 : lq.length = n4) :
    Calls Try.prog 13 #[.slice A la.length ca, .slice A2 lq.length cq_] w0 (RetRo2 w0 (fun x y => .tuple #[.agg #[.slice A la.length ca, .slice A2 lq.length cq_, .int .i64 (-1000), x, y], .int .i64 0]) none none n3 n4 (ls.map (Value.int .i64)) (flatR lm)) := by
 subst e1 e2
 refine enterK 62 Try.func13 rfl rfl rfl ?_
 intro a hF Q0 hR0 hN0
 have hM := Mem.start w0
 replace hM := hM.addOld 1 hA (Nat.le_refl _)
 replace hM := hM.addOld 2 hA2 (Nat.le_refl _)
 refine wp_seq_k fun K1 hK1 => ?_
 refine wp_region_lit ?_
 refine wl (eN 4 3 (t := 27) (fun b => .pointer (some ⟨b, 0, none⟩)) #[.slice none 0 0, .slice none 0 0, .int .i64 0, .slice none 0 0, .slice none 0 0] hF hM (by kernel_rfl) (fun _ => by kernel_rfl) fun bb1 a w hF hM => ?_)
 refine sB 1 [(5, .int .i64 0)] hF (by kernel_rfl) fun a hF => ?_
 refine wpList_nil ?_
 refine hK1 _ _ ?_
 refine wp_seq_k fun K2 hK2 => ?_
 refine wp_seq_k fun K3 hK3 => ?_
 have hli := li_le h
 refine wp_region_lit ?_
 refine sB 2 [(10, .slice A la.length ca), (11, .slice A2 lq.length cq_)] hF (by kernel_rfl) fun a hF => ?_
 refine wl (eM 12 (v := .bool true) hF hM (by kernel_rfl) (Yld.to (yld_call (f := 30) (args := #[.slice A la.length ca, .slice A2 lq.length cq_]) hF (by kernel_rfl) (fun _ => by kernel_rfl) (fun w hM => listed_w A la _ A2 lq _ w (hM.ok 1 _ rfl) hW (hM.ok 2 _ rfl) hW2)) (congrArg Value.bool h)) fun a w hF hM => ?_)
 refine sB 1 [(13, .bool false)] hF (by kernel_rfl) fun a hF => ?_
 refine wpList_nil ?_
 refine hK3 _ _ ?_
 refine cF hF (by kernel_rfl) (by kernel_rfl) ?_
 refine wp_skip ?_
 refine hK2 _ _ ?_
 refine wp_seq_k fun K4 hK4 => ?_
 refine wp_region_lit ?_
 refine sB 3 [(15, .slice A la.length ca), (16, .slice A2 lq.length cq_), (17, .agg #[.slice A la.length ca, .slice A2 lq.length cq_, .int .i64 (-1000), .slice none 0 0, .slice none 0 0])] hF (by kernel_rfl) fun a hF => ?_
 refine wl (eN 6 4 (t := 27) (fun b => .pointer (some ⟨b, 0, none⟩)) #[.slice none 0 0, .slice none 0 0, .int .i64 0, .slice none 0 0, .slice none 0 0] hF hM (by kernel_rfl) (fun _ => by kernel_rfl) fun bb2 a w hF hM => ?_)
 refine wl (sStore (i := 4) (off := 0) (cs' := #[.slice A la.length ca, .slice A2 lq.length cq_, .int .i64 (-1000), .slice none 0 0, .slice none 0 0]) hF hM (by kernel_rfl) rfl rfl (by kernel_rfl) (by kernel_rfl) rfl (by kernel_rfl) fun w hM => ?_)
 refine wpList_nil ?_
 refine hK4 _ _ ?_
 refine wp_seq_k fun K5 hK5 => ?_
 refine wp_region_lit ?_
 refine sB 2 [(18, .slice A la.length ca), (19, .int .i64 (la.length : Int))] hF (by kernel_rfl) fun a hF => ?_
 refine wl (sMake 20 5 la.length (e := 3) (size := 1) (bytes := 8) (z := .int .i64 0) ((List.replicate la.length 0).map (Value.int .i64)) hF hM (by kernel_rfl) rfl (by kernel_rfl) (by kernel_rfl) (by kernel_rfl) (by rw [Nat.mul_one, List.map_replicate]; exact toList_madeCells_one _ _) (by omega) (by unfold maxLen; omega) fun bb3 a w hF hM => ?_)
 refine sB 1 [(21, .pointer (some ⟨bb2, 3, none⟩))] hF (by kernel_rfl) fun a hF => ?_
 refine wl (sStore (i := 4) (off := 3) (cs' := #[.slice A la.length ca, .slice A2 lq.length cq_, .int .i64 (-1000), .slice (some ⟨bb3, 0, none⟩) la.length la.length, .slice none 0 0]) hF hM (by kernel_rfl) rfl rfl (by kernel_rfl) (by kernel_rfl) rfl (by kernel_rfl) fun w hM => ?_)
 refine wpList_nil ?_
 refine hK5 _ _ ?_
 refine wp_seq_k fun K6 hK6 => ?_
 refine wp_seq_k fun K7 hK7 => ?_
 refine wp_region_lit ?_
 refine sB 1 [(22, .pointer (some ⟨bb2, 3, none⟩))] hF (by kernel_rfl) fun a hF => ?_
 refine wl (eL 23 4 3 (v := .slice (some ⟨bb3, 0, none⟩) la.length la.length) hF hM (by kernel_rfl) rfl rfl (by kernel_rfl) (by kernel_rfl) fun a w hF hM => ?_)
 refine sB 2 [(24, .int .i64 (la.length : Int)), (25, .int .i64 0)] hF (by kernel_rfl) fun a hF => ?_
 refine wpList_nil ?_
 refine hK7 _ _ ?_
 refine wp_block ?_
 refine wp_loop_k (G := Nat) (fun gg a w => Fr 62 [(25, some (.int .i64 (gg : Int))), (1, some (.slice A2 lq.length cq_)), (4, some (.pointer (some ⟨bb1, 0, none⟩))), (5, some (.int .i64 0)), (6, some (.pointer (some ⟨bb2, 0, none⟩))), (24, some (.int .i64 (la.length : Int)))] a ∧ Mem w0.heap.size w0 [(1, some (.ro A (flatR la))), (2, some (.ro A2 (flatR lq))), (3, some (.row bb1 27 #[.slice none 0 0, .slice none 0 0, .int .i64 0, .slice none 0 0, .slice none 0 0])), (4, some (.row bb2 27 #[.slice A la.length ca, .slice A2 lq.length cq_, .int .i64 (-1000), .slice (some ⟨bb3, 0, none⟩) la.length la.length, .slice none 0 0])), (5, some (.own (.slice (some ⟨bb3, 0, none⟩) la.length la.length) 3 1 la.length ((fillT (fun _ => (-1 : Int)) 0 la.length gg).map (Value.int .i64))))] w ∧ ((gg : Int) ≤ (la.length : Int))) (fun gg => la.length - gg) (0) ?_ ?_
 ·refine ⟨(((((((Fr.nil hF).c hF (i := 24) rfl rfl).c hF (i := 6) rfl rfl).c hF (i := 5) rfl rfl).c hF (i := 4) rfl rfl).c hF (i := 1) rfl rfl).c hF (i := 25) rfl (vi (show (0 : Int) = (0 : Int) from by omega))), (hM.sub (((((Sub.nil.c (k := 5) rfl (congrArg (fun x => Ent.own _ _ _ _ (List.map (Value.int .i64) x)) (fillT_zero _ _ _))).c (k := 4) rfl rfl).c (k := 3) rfl rfl).c (k := 2) rfl rfl).c (k := 1) rfl rfl)), (show (0 : Int) ≤ (la.length : Int) from by omega)⟩
 ·intro gg a w hI
  intro K8 hK8
  obtain ⟨k, rfl⟩ : ∃ x, x = gg := ⟨_, rfl⟩
  try dsimp only at hI hK8
  obtain ⟨hF, hM, hz1⟩ := hI
  refine wp_seq_k fun K9 hK9 => ?_
  refine wp_region_lit ?_
  refine sB 1 [(26, .bool (decide ((k : Int) < (la.length : Int))))] hF (by kernel_rfl) fun a hF => ?_
  refine wpList_nil ?_
  refine hK9 _ _ ?_
  refine wp_seq_k fun K10 hK10 => ?_
  by_cases hz2 : (k : Int) < (la.length : Int)
  ·skip
   replace hF := hF.c hF (i := 26) (v := .bool true) rfl (bT hz2)
   refine cT hF (by kernel_rfl) (by kernel_rfl) ?_
   refine wp_skip ?_
   refine hK10 _ _ ?_
   refine wp_seq_k fun K11 hK11 => ?_
   refine wp_block ?_
   refine wp_seq_k fun K12 hK12 => ?_
   refine wp_region_lit ?_
   refine sB 2 [(27, .int .i64 (k : Int)), (7, .int .i64 (k : Int))] hF (by kernel_rfl) fun a hF => ?_
   refine wpList_nil ?_
   refine hK12 _ _ ?_
   refine wp_region_lit ?_
   refine sB 1 [(28, .pointer (some ⟨bb2, 3, none⟩))] hF (by kernel_rfl) fun a hF => ?_
   refine wl (eL 29 4 3 (v := .slice (some ⟨bb3, 0, none⟩) la.length la.length) hF hM (by kernel_rfl) rfl rfl (by kernel_rfl) (by kernel_rfl) fun a w hF hM => ?_)
   refine sB 1 [(30, .int .i64 (k : Int))] hF (by kernel_rfl) fun a hF => ?_
   refine wl (eM 31 (v := .pointer (some (ea (some ⟨bb3, 0, none⟩) (k)))) hF hM (by kernel_rfl) (yld_ix (kd := .i64) (e := 3) (len := la.length) (cap := la.length) (i := (k : Int)) (size := 1) (A := (some ⟨bb3, 0, none⟩)) hF rfl (by kernel_rfl) (by kernel_rfl) (by kernel_rfl) (by kernel_rfl) (by kernel_rfl) (roO 5 rfl) (by omega) (by omega) (by (try simp only [List.length_map, List.length_append, List.length_replicate, List.length_set, List.length_cons, List.length_nil, flat2_length, List.length_take, fillT_len]); omega)) fun a w hF hM => ?_)
   refine wl (sStoreO 5 (j := k) (A := (some ⟨bb3, 0, none⟩)) (((fillT (fun _ => (-1 : Int)) 0 la.length k).set k (-1)).map (Value.int .i64)) hF hM (by kernel_rfl) rfl rfl (by kernel_rfl) (by kernel_rfl) rfl (by kernel_rfl) rfl rfl (by (try simp only [List.length_map, List.length_append, List.length_replicate, List.length_set, List.length_cons, List.length_nil, flat2_length, List.length_take, fillT_len]); omega) (map_set' _ _ _ _) fun w hM => ?_)
   refine wpList_nil ?_
   refine hK11 _ _ ?_
   refine wp_region_lit ?_
   refine wl (eP 32 (v0 := .int .i64 (IntKind.i64.wrap ((k : Int) + 1))) (v := .int .i64 ((k : Int) + 1)) hF (by kernel_rfl) (fun _ => by kernel_rfl) (wi (by omega)) fun a hF => ?_)
   refine sB 1 [(25, .int .i64 ((k : Int) + 1))] hF (by kernel_rfl) fun a hF => ?_
   refine wpList_nil ?_
   refine hK8 _ _ ⟨(k + 1), ⟨(((((((Fr.nil hF).c hF (i := 24) rfl rfl).c hF (i := 6) rfl rfl).c hF (i := 5) rfl rfl).c hF (i := 4) rfl rfl).c hF (i := 1) rfl rfl).c hF (i := 25) rfl (vi (show ((k : Int) + 1 : Int) = ((k + 1) : Int) from by omega))), (hM.sub (((((Sub.nil.c (k := 5) rfl (congrArg (fun x => Ent.own _ _ _ _ (List.map (Value.int .i64) x)) (fillT_set _ _ (by omega) rfl))).c (k := 4) rfl rfl).c (k := 3) rfl rfl).c (k := 2) rfl rfl).c (k := 1) rfl rfl)), (show ((k + 1) : Int) ≤ (la.length : Int) from by omega)⟩, (show la.length - (k + 1) < la.length - k from by omega)⟩
  ·skip
   replace hF := hF.c hF (i := 26) (v := .bool false) rfl (bF hz2)
   refine cF hF (by kernel_rfl) (by kernel_rfl) ?_
   refine wp_exit ?_
   refine hK6 _ _ ?_
   refine wp_seq_k fun K13 hK13 => ?_
   obtain rfl : k = la.length := by omega
   refine wp_region_lit ?_
   refine sB 2 [(33, .slice A2 lq.length cq_), (34, .int .i64 (lq.length : Int))] hF (by kernel_rfl) fun a hF => ?_
   refine wl (sMake 35 6 lq.length (e := 80) (size := 3) (bytes := 24) (z := .agg #[.int .i64 0, .int .i64 0, .int .i64 0]) (flatR (List.replicate lq.length (List.replicate 3 0))) hF hM (by kernel_rfl) rfl (by kernel_rfl) (by kernel_rfl) (by kernel_rfl) (made_R 3 lq.length (by decide) rfl) (by omega) (by unfold maxLen; omega) fun bb4 a w hF hM => ?_)
   refine sB 1 [(36, .pointer (some ⟨bb2, 4, none⟩))] hF (by kernel_rfl) fun a hF => ?_
   refine wl (sStore (i := 4) (off := 4) (cs' := #[.slice A la.length ca, .slice A2 lq.length cq_, .int .i64 (-1000), .slice (some ⟨bb3, 0, none⟩) la.length la.length, .slice (some ⟨bb4, 0, none⟩) lq.length lq.length]) hF hM (by kernel_rfl) rfl rfl (by kernel_rfl) (by kernel_rfl) rfl (by kernel_rfl) fun w hM => ?_)
   refine wpList_nil ?_
   refine hK13 _ _ ?_
   refine wp_seq_k fun K14 hK14 => ?_
   refine wp_seq_k fun K15 hK15 => ?_
   refine wp_region_lit ?_
   refine sB 3 [(37, .slice A2 lq.length cq_), (38, .int .i64 (lq.length : Int)), (39, .int .i64 0)] hF (by kernel_rfl) fun a hF => ?_
   refine wpList_nil ?_
   refine hK15 _ _ ?_
   refine wp_block ?_
   refine wp_loop_k (G := Nat) (fun gg a w => Fr 62 [(39, some (.int .i64 (gg : Int))), (4, some (.pointer (some ⟨bb1, 0, none⟩))), (5, some (.int .i64 0)), (6, some (.pointer (some ⟨bb2, 0, none⟩))), (37, some (.slice A2 lq.length cq_)), (38, some (.int .i64 (lq.length : Int)))] a ∧ Mem w0.heap.size w0 [(1, some (.ro A (flatR la))), (2, some (.ro A2 (flatR lq))), (3, some (.row bb1 27 #[.slice none 0 0, .slice none 0 0, .int .i64 0, .slice none 0 0, .slice none 0 0])), (4, some (.row bb2 27 #[.slice A la.length ca, .slice A2 lq.length cq_, .int .i64 (-1000), .slice (some ⟨bb3, 0, none⟩) la.length la.length, .slice (some ⟨bb4, 0, none⟩) lq.length lq.length])), (5, some (.own (.slice (some ⟨bb3, 0, none⟩) la.length la.length) 3 1 la.length ((fillT (fun _ => (-1 : Int)) 0 la.length la.length).map (Value.int .i64)))), (6, some (.own (.slice (some ⟨bb4, 0, none⟩) lq.length lq.length) 80 3 lq.length (flatR (fillT (mOf lq) [0, 0, 0] lq.length gg))))] w ∧ ((gg : Int) ≤ (lq.length : Int))) (fun gg => lq.length - gg) (0) ?_ ?_
   ·refine ⟨(((((((Fr.nil hF).c hF (i := 38) rfl rfl).c hF (i := 37) rfl rfl).c hF (i := 6) rfl rfl).c hF (i := 5) rfl rfl).c hF (i := 4) rfl rfl).c hF (i := 39) rfl (vi (show (0 : Int) = (0 : Int) from by omega))), (hM.sub ((((((Sub.nil.c (k := 6) rfl (congrArg (fun x => Ent.own _ _ _ _ (flatR x)) (fillT_zero (mOf lq) _ _))).c (k := 5) rfl rfl).c (k := 4) rfl rfl).c (k := 3) rfl rfl).c (k := 2) rfl rfl).c (k := 1) rfl rfl)), (show (0 : Int) ≤ (lq.length : Int) from by omega)⟩
   ·intro gg a w hI
    intro K16 hK16
    obtain ⟨q, rfl⟩ : ∃ x, x = gg := ⟨_, rfl⟩
    try dsimp only at hI hK16
    obtain ⟨hF, hM, hz3⟩ := hI
    refine wp_seq_k fun K17 hK17 => ?_
    refine wp_region_lit ?_
    refine sB 1 [(40, .bool (decide ((q : Int) < (lq.length : Int))))] hF (by kernel_rfl) fun a hF => ?_
    refine wpList_nil ?_
    refine hK17 _ _ ?_
    refine wp_seq_k fun K18 hK18 => ?_
    by_cases hz4 : (q : Int) < (lq.length : Int)
    ·skip
     replace hF := hF.c hF (i := 40) (v := .bool true) rfl (bT hz4)
     refine cT hF (by kernel_rfl) (by kernel_rfl) ?_
     refine wp_skip ?_
     refine hK18 _ _ ?_
     refine wp_seq_k fun K19 hK19 => ?_
     refine wp_block ?_
     refine wp_seq_k fun K20 hK20 => ?_
     refine wp_region_lit ?_
     refine sB 1 [(41, .int .i64 (q : Int))] hF (by kernel_rfl) fun a hF => ?_
     refine wl (eM 42 (v := .pointer (some (ea A2 (q * 5)))) hF hM (by kernel_rfl) (yld_ix (kd := .i64) (e := 69) (len := lq.length) (cap := cq_) (i := (q : Int)) (size := 5) (A := A2) hF rfl (by kernel_rfl) (by kernel_rfl) (by kernel_rfl) (by kernel_rfl) (by kernel_rfl) (roK 2 rfl) (by omega) (by omega) (by rw [flatR_length hW2]; (try simp only [List.length_map, List.length_append, List.length_replicate, List.length_set, List.length_cons, List.length_nil, flat2_length, List.length_take]); omega)) fun a w hF hM => ?_)
     refine wl (eM 43 (v := .agg #[.int .i64 (rc lq q 0), .int .i64 (rc lq q 1), .int .i64 (rc lq q 2), .int .i64 (rc lq q 3), .int .i64 (rc lq q 4)]) hF hM (by kernel_rfl) (yld_roM (A := A2) (j := q * 5) (us := [.int .i64 (rc lq q 0), .int .i64 (rc lq q 1), .int .i64 (rc lq q 2), .int .i64 (rc lq q 3), .int .i64 (rc lq q 4)]) hF rfl (by kernel_rfl) (by kernel_rfl) (roK 2 rfl) (by kernel_rfl) rfl (rc_sub (k := q) (f := 0) (m := 5) hW2 (by omega) (by decide) rfl)) fun a w hF hM => ?_)
     refine wl (eN 9 7 (t := 69) (fun b => .pointer (some ⟨b, 0, none⟩)) #[.int .i64 0, .int .i64 0, .int .i64 0, .int .i64 0, .int .i64 0] hF hM (by kernel_rfl) (fun _ => by kernel_rfl) fun bb5 a w hF hM => ?_)
     refine sB 1 [(8, .int .i64 (q : Int))] hF (by kernel_rfl) fun a hF => ?_
     refine wl (sStore (i := 7) (off := 0) (cs' := #[.int .i64 (rc lq q 0), .int .i64 (rc lq q 1), .int .i64 (rc lq q 2), .int .i64 (rc lq q 3), .int .i64 (rc lq q 4)]) hF hM (by kernel_rfl) rfl rfl (by kernel_rfl) (by kernel_rfl) rfl (by kernel_rfl) fun w hM => ?_)
     refine wpList_nil ?_
     refine hK20 _ _ ?_
     have hnw := li_q h (k := q) (by omega)
     have hnw2 := newE_ok hnw
     refine rF (by kernel_rfl) (by kernel_rfl) (fun S a w => Fr 62 [(4, some (.pointer (some ⟨bb1, 0, none⟩))), (5, some (.int .i64 0)), (6, some (.pointer (some ⟨bb2, 0, none⟩))), (8, some (.int .i64 (q : Int))), (9, some (.pointer (some ⟨bb5, 0, none⟩))), (37, some (.slice A2 lq.length cq_)), (38, some (.int .i64 (lq.length : Int))), (39, some (.int .i64 (q : Int))), (44, (cond (S.getD 8 false) (some (.tuple #[.agg #[.int .i64 0, .int .i64 (rc lq q 1 * 1048576), .int .i64 (rc lq q 3 * 1048576)], .int .i64 0])) none)), (45, (cond (S.getD 0 false) (some (.pointer (some ⟨bb2, 4, none⟩))) none)), (46, (cond (S.getD 1 false) (some (.slice (some ⟨bb4, 0, none⟩) lq.length lq.length)) none)), (47, (cond (S.getD 2 false) (some (.int .i64 (q : Int))) none)), (48, (cond (S.getD 3 false) (some (.pointer (some ⟨bb5, 1, none⟩))) none)), (49, (cond (S.getD 4 false) (some (.agg #[.int .i64 (rc lq q 1), .int .i64 (rc lq q 2)])) none)), (50, (cond (S.getD 5 false) (some (.pointer (some ⟨bb5, 3, none⟩))) none)), (51, (cond (S.getD 6 false) (some (.agg #[.int .i64 (rc lq q 3), .int .i64 (rc lq q 4)])) none)), (52, (cond (S.getD 7 false) (some (.tuple #[.agg #[.int .i64 0, .int .i64 (rc lq q 1 * 1048576), .int .i64 (rc lq q 3 * 1048576)], .int .i64 0])) none)), (53, (cond (S.getD 9 false) (some (.agg #[.int .i64 0, .int .i64 (rc lq q 1 * 1048576), .int .i64 (rc lq q 3 * 1048576)])) none)), (54, (cond (S.getD 10 false) (some (.int .i64 0)) none)), (55, (cond (S.getD 11 false) (some (.pointer (some (ea (some ⟨bb4, 0, none⟩) (q * 3))))) none))] a ∧ Mem w0.heap.size w0 [(1, some (.ro A (flatR la))), (2, some (.ro A2 (flatR lq))), (3, some (.row bb1 27 #[.slice none 0 0, .slice none 0 0, .int .i64 0, .slice none 0 0, .slice none 0 0])), (4, some (.row bb2 27 #[.slice A la.length ca, .slice A2 lq.length cq_, .int .i64 (-1000), .slice (some ⟨bb3, 0, none⟩) la.length la.length, .slice (some ⟨bb4, 0, none⟩) lq.length lq.length])), (5, some (.own (.slice (some ⟨bb3, 0, none⟩) la.length la.length) 3 1 la.length ((fillT (fun _ => (-1 : Int)) 0 la.length la.length).map (Value.int .i64)))), (6, (cond (S.getD 12 false) (some (.own (.slice (some ⟨bb4, 0, none⟩) lq.length lq.length) 80 3 lq.length (flatR ((fillT (mOf lq) [0, 0, 0] lq.length q).set q [0, rc lq q 1 * 1048576, rc lq q 3 * 1048576])))) (some (.own (.slice (some ⟨bb4, 0, none⟩) lq.length lq.length) 80 3 lq.length (flatR (fillT (mOf lq) [0, 0, 0] lq.length q)))))), (7, some (.row bb5 69 #[.int .i64 (rc lq q 0), .int .i64 (rc lq q 1), .int .i64 (rc lq q 2), .int .i64 (rc lq q 3), .int .i64 (rc lq q 4)]))] w) ?_ ?_ ?_
     ·exact ⟨(((((((((((((((((((((Fr.nil hF).co hF (i := 55) (by kernel_rfl)).co hF (i := 54) (by kernel_rfl)).co hF (i := 53) (by kernel_rfl)).co hF (i := 52) (by kernel_rfl)).co hF (i := 51) (by kernel_rfl)).co hF (i := 50) (by kernel_rfl)).co hF (i := 49) (by kernel_rfl)).co hF (i := 48) (by kernel_rfl)).co hF (i := 47) (by kernel_rfl)).co hF (i := 46) (by kernel_rfl)).co hF (i := 45) (by kernel_rfl)).co hF (i := 44) (by kernel_rfl)).co hF (i := 39) (by kernel_rfl)).co hF (i := 38) (by kernel_rfl)).co hF (i := 37) (by kernel_rfl)).co hF (i := 9) (by kernel_rfl)).co hF (i := 8) (by kernel_rfl)).co hF (i := 6) (by kernel_rfl)).co hF (i := 5) (by kernel_rfl)).co hF (i := 4) (by kernel_rfl)), hM.drew.sub (((((((Sub.nil.co (k := 7) (by kernel_rfl)).co (k := 6) (by kernel_rfl)).co (k := 5) (by kernel_rfl)).co (k := 4) (by kernel_rfl)).co (k := 3) (by kernel_rfl)).co (k := 2) (by kernel_rfl)).co (k := 1) (by kernel_rfl))⟩
     ·refine stC ?_ (stC ?_ (stC ?_ (stC ?_ (stC ?_ (stC ?_ (stC ?_ (stC ?_ (stC ?_ (stC ?_ (stC ?_ (stC ?_ (stC ?_ (trivial)))))))))))))
      ·intro s0 s1 s2 s3 s4 s5 s6 s7 s8 s9 s10 s11 s12 hc hi hp a w hS
       obtain rfl : s0 = false := hi
       obtain ⟨hF, hM⟩ := hS
       refine eP 45 (v0 := .pointer (some ⟨bb2, 4, none⟩)) (v := .pointer (some ⟨bb2, 4, none⟩)) hF (by kernel_rfl) (fun _ => by kernel_rfl) rfl fun a hF => ?_
       exact ⟨((hF.repl 9 (by kernel_rfl)).cast (by kernel_rfl)), (hM.cast (by kernel_rfl))⟩
      ·intro s0 s1 s2 s3 s4 s5 s6 s7 s8 s9 s10 s11 s12 hc hi hp a w hS
       obtain rfl : s1 = false := hi
       obtain rfl : s0 = true := hp 0 (by kernel_rfl)
       obtain rfl : s12 = false := hc.f 12 1 (by kernel_rfl) rfl
       obtain ⟨hF, hM⟩ := hS
       refine eL 46 4 4 (v := .slice (some ⟨bb4, 0, none⟩) lq.length lq.length) hF hM (by kernel_rfl) rfl rfl (by kernel_rfl) (by kernel_rfl) fun a w hF hM => ?_
       exact ⟨((hF.repl 10 (by kernel_rfl)).cast (by kernel_rfl)), (hM.cast (by kernel_rfl))⟩
      ·intro s0 s1 s2 s3 s4 s5 s6 s7 s8 s9 s10 s11 s12 hc hi hp a w hS
       obtain rfl : s2 = false := hi
       obtain ⟨hF, hM⟩ := hS
       refine eP 47 (v0 := .int .i64 (q : Int)) (v := .int .i64 (q : Int)) hF (by kernel_rfl) (fun _ => by kernel_rfl) rfl fun a hF => ?_
       exact ⟨((hF.repl 11 (by kernel_rfl)).cast (by kernel_rfl)), (hM.cast (by kernel_rfl))⟩
      ·intro s0 s1 s2 s3 s4 s5 s6 s7 s8 s9 s10 s11 s12 hc hi hp a w hS
       obtain rfl : s3 = false := hi
       obtain ⟨hF, hM⟩ := hS
       refine eP 48 (v0 := .pointer (some ⟨bb5, 1, none⟩)) (v := .pointer (some ⟨bb5, 1, none⟩)) hF (by kernel_rfl) (fun _ => by kernel_rfl) rfl fun a hF => ?_
       exact ⟨((hF.repl 12 (by kernel_rfl)).cast (by kernel_rfl)), (hM.cast (by kernel_rfl))⟩
      ·intro s0 s1 s2 s3 s4 s5 s6 s7 s8 s9 s10 s11 s12 hc hi hp a w hS
       obtain rfl : s4 = false := hi
       obtain rfl : s3 = true := hp 3 (by kernel_rfl)
       obtain ⟨hF, hM⟩ := hS
       refine eL 49 7 1 (v := .agg #[.int .i64 (rc lq q 1), .int .i64 (rc lq q 2)]) hF hM (by kernel_rfl) rfl rfl (by kernel_rfl) (by kernel_rfl) fun a w hF hM => ?_
       exact ⟨((hF.repl 13 (by kernel_rfl)).cast (by kernel_rfl)), (hM.cast (by kernel_rfl))⟩
      ·intro s0 s1 s2 s3 s4 s5 s6 s7 s8 s9 s10 s11 s12 hc hi hp a w hS
       obtain rfl : s5 = false := hi
       obtain ⟨hF, hM⟩ := hS
       refine eP 50 (v0 := .pointer (some ⟨bb5, 3, none⟩)) (v := .pointer (some ⟨bb5, 3, none⟩)) hF (by kernel_rfl) (fun _ => by kernel_rfl) rfl fun a hF => ?_
       exact ⟨((hF.repl 14 (by kernel_rfl)).cast (by kernel_rfl)), (hM.cast (by kernel_rfl))⟩
      ·intro s0 s1 s2 s3 s4 s5 s6 s7 s8 s9 s10 s11 s12 hc hi hp a w hS
       obtain rfl : s6 = false := hi
       obtain rfl : s5 = true := hp 5 (by kernel_rfl)
       obtain ⟨hF, hM⟩ := hS
       refine eL 51 7 3 (v := .agg #[.int .i64 (rc lq q 3), .int .i64 (rc lq q 4)]) hF hM (by kernel_rfl) rfl rfl (by kernel_rfl) (by kernel_rfl) fun a w hF hM => ?_
       exact ⟨((hF.repl 15 (by kernel_rfl)).cast (by kernel_rfl)), (hM.cast (by kernel_rfl))⟩
      ·intro s0 s1 s2 s3 s4 s5 s6 s7 s8 s9 s10 s11 s12 hc hi hp a w hS
       obtain rfl : s7 = false := hi
       obtain rfl : s6 = true := hp 6 (by kernel_rfl)
       obtain rfl : s4 = true := hp 4 (by kernel_rfl)
       obtain ⟨hF, hM⟩ := hS
       refine eM 52 (v := .tuple #[.agg #[.int .i64 0, .int .i64 (rc lq q 1 * 1048576), .int .i64 (rc lq q 3 * 1048576)], .int .i64 0]) hF hM (by kernel_rfl) (yld_call (f := 33) (args := #[.agg #[.int .i64 (rc lq q 1), .int .i64 (rc lq q 2)], .agg #[.int .i64 (rc lq q 3), .int .i64 (rc lq q 4)]]) hF (by kernel_rfl) (fun _ => by kernel_rfl) (fun w hM => meterNew_ok (rc lq q 1) (rc lq q 2) (rc lq q 3) (rc lq q 4) w hnw)) fun a w hF hM => ?_
       exact ⟨((hF.repl 16 (by kernel_rfl)).cast (by kernel_rfl)), (hM.cast (by kernel_rfl))⟩
      ·intro s0 s1 s2 s3 s4 s5 s6 s7 s8 s9 s10 s11 s12 hc hi hp a w hS
       obtain rfl : s8 = false := hi
       obtain rfl : s7 = true := hp 7 (by kernel_rfl)
       obtain ⟨hF, hM⟩ := hS
       refine eP 44 (v0 := .tuple #[.agg #[.int .i64 0, .int .i64 (rc lq q 1 * 1048576), .int .i64 (rc lq q 3 * 1048576)], .int .i64 0]) (v := .tuple #[.agg #[.int .i64 0, .int .i64 (rc lq q 1 * 1048576), .int .i64 (rc lq q 3 * 1048576)], .int .i64 0]) hF (by kernel_rfl) (fun _ => by kernel_rfl) rfl fun a hF => ?_
       exact ⟨((hF.repl 8 (by kernel_rfl)).cast (by kernel_rfl)), (hM.cast (by kernel_rfl))⟩
      ·intro s0 s1 s2 s3 s4 s5 s6 s7 s8 s9 s10 s11 s12 hc hi hp a w hS
       obtain rfl : s9 = false := hi
       obtain rfl : s8 = true := hp 8 (by kernel_rfl)
       obtain ⟨hF, hM⟩ := hS
       refine eP 53 (v0 := .agg #[.int .i64 0, .int .i64 (rc lq q 1 * 1048576), .int .i64 (rc lq q 3 * 1048576)]) (v := .agg #[.int .i64 0, .int .i64 (rc lq q 1 * 1048576), .int .i64 (rc lq q 3 * 1048576)]) hF (by kernel_rfl) (fun _ => by kernel_rfl) rfl fun a hF => ?_
       exact ⟨((hF.repl 17 (by kernel_rfl)).cast (by kernel_rfl)), (hM.cast (by kernel_rfl))⟩
      ·intro s0 s1 s2 s3 s4 s5 s6 s7 s8 s9 s10 s11 s12 hc hi hp a w hS
       obtain rfl : s10 = false := hi
       obtain rfl : s8 = true := hp 8 (by kernel_rfl)
       obtain ⟨hF, hM⟩ := hS
       refine eP 54 (v0 := .int .i64 0) (v := .int .i64 0) hF (by kernel_rfl) (fun _ => by kernel_rfl) rfl fun a hF => ?_
       exact ⟨((hF.repl 18 (by kernel_rfl)).cast (by kernel_rfl)), (hM.cast (by kernel_rfl))⟩
      ·intro s0 s1 s2 s3 s4 s5 s6 s7 s8 s9 s10 s11 s12 hc hi hp a w hS
       obtain rfl : s11 = false := hi
       obtain rfl : s2 = true := hp 2 (by kernel_rfl)
       obtain rfl : s1 = true := hp 1 (by kernel_rfl)
       obtain rfl : s12 = false := hc.f 12 11 (by kernel_rfl) rfl
       obtain ⟨hF, hM⟩ := hS
       refine eM 55 (v := .pointer (some (ea (some ⟨bb4, 0, none⟩) (q * 3)))) hF hM (by kernel_rfl) (yld_ix (kd := .i64) (e := 80) (len := lq.length) (cap := lq.length) (i := (q : Int)) (size := 3) (A := (some ⟨bb4, 0, none⟩)) hF rfl (by kernel_rfl) (by kernel_rfl) (by kernel_rfl) (by kernel_rfl) (by kernel_rfl) (roO 6 rfl) (by omega) (by omega) (by rw [flatR_length (fillT_wr (n := lq.length) (k := q) (mOf_len lq) rfl)]; rw [fillT_len]; (try simp only [List.length_map, List.length_append, List.length_replicate, List.length_set, List.length_cons, List.length_nil, flat2_length, List.length_take]); omega)) fun a w hF hM => ?_
       exact ⟨((hF.repl 19 (by kernel_rfl)).cast (by kernel_rfl)), (hM.cast (by kernel_rfl))⟩
      ·intro s0 s1 s2 s3 s4 s5 s6 s7 s8 s9 s10 s11 s12 hc hi hp a w hS
       obtain rfl : s12 = false := hi
       obtain rfl : s11 = true := hp 11 (by kernel_rfl)
       obtain rfl : s9 = true := hp 9 (by kernel_rfl)
       obtain ⟨hF, hM⟩ := hS
       refine sStoreOM 6 (j := q * 3) (A := (some ⟨bb4, 0, none⟩)) [.int .i64 0, .int .i64 (rc lq q 1 * 1048576), .int .i64 (rc lq q 3 * 1048576)] (flatR ((fillT (mOf lq) [0, 0, 0] lq.length q).set q [0, rc lq q 1 * 1048576, rc lq q 3 * 1048576])) hF hM (by kernel_rfl) rfl rfl (by kernel_rfl) (by kernel_rfl) rfl (by kernel_rfl) rfl (by intro u hu; simp only [List.mem_cons, List.not_mem_nil, or_false] at hu; rcases hu with rfl | rfl | rfl <;> rfl) (Nat.succ_pos _) (by rw [flatR_length (fillT_wr (n := lq.length) (k := q) (mOf_len lq) rfl)]; rw [fillT_len]; (try simp only [List.length_map, List.length_append, List.length_replicate, List.length_set, List.length_cons, List.length_nil, flat2_length, List.length_take]); omega) (flatR_set (k := q) (r := [0, rc lq q 1 * 1048576, rc lq q 3 * 1048576]) (fillT_wr (n := lq.length) (k := q) (mOf_len lq) rfl) (by rw [fillT_len]; (try simp only [List.length_map, List.length_append, List.length_replicate, List.length_set, List.length_cons, List.length_nil, flat2_length, List.length_take, fillT_len]); omega) rfl) fun w hM => ?_
       exact ⟨(hF.cast (by kernel_rfl)), ((hM.repl 5 (by kernel_rfl)).cast (by kernel_rfl))⟩
     ·intro a w hS
      obtain ⟨hF, hM⟩ := hS
      replace hF : Fr 62 [(4, some (.pointer (some ⟨bb1, 0, none⟩))), (5, some (.int .i64 0)), (6, some (.pointer (some ⟨bb2, 0, none⟩))), (8, some (.int .i64 (q : Int))), (9, some (.pointer (some ⟨bb5, 0, none⟩))), (37, some (.slice A2 lq.length cq_)), (38, some (.int .i64 (lq.length : Int))), (39, some (.int .i64 (q : Int))), (44, some (.tuple #[.agg #[.int .i64 0, .int .i64 (rc lq q 1 * 1048576), .int .i64 (rc lq q 3 * 1048576)], .int .i64 0])), (45, some (.pointer (some ⟨bb2, 4, none⟩))), (46, some (.slice (some ⟨bb4, 0, none⟩) lq.length lq.length)), (47, some (.int .i64 (q : Int))), (48, some (.pointer (some ⟨bb5, 1, none⟩))), (49, some (.agg #[.int .i64 (rc lq q 1), .int .i64 (rc lq q 2)])), (50, some (.pointer (some ⟨bb5, 3, none⟩))), (51, some (.agg #[.int .i64 (rc lq q 3), .int .i64 (rc lq q 4)])), (52, some (.tuple #[.agg #[.int .i64 0, .int .i64 (rc lq q 1 * 1048576), .int .i64 (rc lq q 3 * 1048576)], .int .i64 0])), (53, some (.agg #[.int .i64 0, .int .i64 (rc lq q 1 * 1048576), .int .i64 (rc lq q 3 * 1048576)])), (54, some (.int .i64 0)), (55, some (.pointer (some (ea (some ⟨bb4, 0, none⟩) (q * 3)))))] a := hF.cast (by kernel_rfl)
      replace hM : Mem w0.heap.size w0 [(1, some (.ro A (flatR la))), (2, some (.ro A2 (flatR lq))), (3, some (.row bb1 27 #[.slice none 0 0, .slice none 0 0, .int .i64 0, .slice none 0 0, .slice none 0 0])), (4, some (.row bb2 27 #[.slice A la.length ca, .slice A2 lq.length cq_, .int .i64 (-1000), .slice (some ⟨bb3, 0, none⟩) la.length la.length, .slice (some ⟨bb4, 0, none⟩) lq.length lq.length])), (5, some (.own (.slice (some ⟨bb3, 0, none⟩) la.length la.length) 3 1 la.length ((fillT (fun _ => (-1 : Int)) 0 la.length la.length).map (Value.int .i64)))), (6, some (.own (.slice (some ⟨bb4, 0, none⟩) lq.length lq.length) 80 3 lq.length (flatR ((fillT (mOf lq) [0, 0, 0] lq.length q).set q [0, rc lq q 1 * 1048576, rc lq q 3 * 1048576])))), (7, some (.row bb5 69 #[.int .i64 (rc lq q 0), .int .i64 (rc lq q 1), .int .i64 (rc lq q 2), .int .i64 (rc lq q 3), .int .i64 (rc lq q 4)]))] w := hM.cast (by kernel_rfl)
      refine hK19 _ _ ?_
      refine wp_region_lit ?_
      refine wl (eP 56 (v0 := .int .i64 (IntKind.i64.wrap ((q : Int) + 1))) (v := .int .i64 ((q : Int) + 1)) hF (by kernel_rfl) (fun _ => by kernel_rfl) (wi (by omega)) fun a hF => ?_)
      refine sB 1 [(39, .int .i64 ((q : Int) + 1))] hF (by kernel_rfl) fun a hF => ?_
      refine wpList_nil ?_
      refine hK16 _ _ ⟨(q + 1), ⟨(((((((Fr.nil hF).c hF (i := 38) rfl rfl).c hF (i := 37) rfl rfl).c hF (i := 6) rfl rfl).c hF (i := 5) rfl rfl).c hF (i := 4) rfl rfl).c hF (i := 39) rfl (vi (show ((q : Int) + 1 : Int) = ((q + 1) : Int) from by omega))), (hM.sub ((((((Sub.nil.c (k := 6) rfl (congrArg (fun x => Ent.own _ _ _ _ (flatR x)) (fillT_set _ _ (by omega) rfl))).c (k := 5) rfl rfl).c (k := 4) rfl rfl).c (k := 3) rfl rfl).c (k := 2) rfl rfl).c (k := 1) rfl rfl)), (show ((q + 1) : Int) ≤ (lq.length : Int) from by omega)⟩, (show lq.length - (q + 1) < lq.length - q from by omega)⟩
    ·skip
     replace hF := hF.c hF (i := 40) (v := .bool false) rfl (bF hz4)
     refine cF hF (by kernel_rfl) (by kernel_rfl) ?_
     refine wp_exit ?_
     refine hK14 _ _ ?_
     refine wp_seq_k fun K21 hK21 => ?_
     refine wp_seq_k fun K22 hK22 => ?_
     obtain rfl : q = lq.length := by omega
     have hfl := fl_new h
     replace hM := hM.cast (show _ = _ from rfl)
     refine wp_region_lit ?_
     refine wl (eL 57 4 0 (v := .agg #[.slice A la.length ca, .slice A2 lq.length cq_, .int .i64 (-1000), .slice (some ⟨bb3, 0, none⟩) la.length la.length, .slice (some ⟨bb4, 0, none⟩) lq.length lq.length]) hF hM (by kernel_rfl) rfl rfl (by kernel_rfl) (by kernel_rfl) fun a w hF hM => ?_)
     refine wl (eM 58 (v := .int .i64 (flE la lq (-1000) (nwL la) (nwM lq))) hF hM (by kernel_rfl) (yld_call (f := 12) (args := #[.agg #[.slice A la.length ca, .slice A2 lq.length cq_, .int .i64 (-1000), .slice (some ⟨bb3, 0, none⟩) la.length la.length, .slice (some ⟨bb4, 0, none⟩) lq.length lq.length]]) hF (by kernel_rfl) (fun _ => by kernel_rfl) (fun w hM => fiCheck_x A la ca A2 lq cq_ (-1000) (some ⟨bb3, 0, none⟩) (nwL la) la.length (some ⟨bb4, 0, none⟩) (nwM lq) lq.length w (hM.ok 1 _ rfl) hW (hM.ok 2 _ rfl) hW2 (ro_of_own (hM.ok 5 _ rfl)) (ro_of_own (hM.ok 6 _ rfl)) nwM_wr rfl rfl nwL_len nwM_len)) fun a w hF hM => ?_)
     refine wl (eP 59 (v0 := .bool (!decide (flE la lq (-1000) (nwL la) (nwM lq) = 0))) (v := .bool false) hF (by kernel_rfl) (fun _ => by kernel_rfl) (nT hfl) fun a hF => ?_)
     refine wpList_nil ?_
     refine hK22 _ _ ?_
     refine cF hF (by kernel_rfl) (by kernel_rfl) ?_
     refine wp_skip ?_
     refine hK21 _ _ ?_
     refine wp_seq_k fun K23 hK23 => ?_
     refine wp_region_lit ?_
     refine wl (eL 61 4 0 (v := .agg #[.slice A la.length ca, .slice A2 lq.length cq_, .int .i64 (-1000), .slice (some ⟨bb3, 0, none⟩) la.length la.length, .slice (some ⟨bb4, 0, none⟩) lq.length lq.length]) hF hM (by kernel_rfl) rfl rfl (by kernel_rfl) (by kernel_rfl) fun a w hF hM => ?_)
     refine wl (sStore (i := 3) (off := 0) (cs' := #[.slice A la.length ca, .slice A2 lq.length cq_, .int .i64 (-1000), .slice (some ⟨bb3, 0, none⟩) la.length la.length, .slice (some ⟨bb4, 0, none⟩) lq.length lq.length]) hF hM (by kernel_rfl) rfl rfl (by kernel_rfl) (by kernel_rfl) rfl (by kernel_rfl) fun w hM => ?_)
     refine sB 1 [(5, .int .i64 0)] hF (by kernel_rfl) fun a hF => ?_
     refine wpList_nil ?_
     refine hK23 _ _ ?_
     refine wp_ret ?_
     refine hR0 _ _ ?_
     refine ret_of hF hM (.cell (i := 3) rfl rfl (v := .agg #[.slice A la.length ca, .slice A2 lq.length cq_, .int .i64 (-1000), .slice (some ⟨bb3, 0, none⟩) la.length la.length, .slice (some ⟨bb4, 0, none⟩) lq.length lq.length]) (by kernel_rfl) (.tmp rfl (.nil))) ?_
     subst e3 e4
     exact ⟨_, _, _, _, rfl, hM.ownNew (k := 5) rfl, hM.ownNew (k := 6) rfl, hM.bel⟩

end Go.Proofs.Ytogeficooemngaa
