/-
  Lists of registrations and meters.
-/
import Derived.Test.YtogeficooemngaaFiB
namespace Go.Proofs.Ytogeficooemngaa
open Go.RowKit
set_option linter.unusedVariables false
set_option linter.unusedSimpArgs false

def vpB (pp cb cr pb ps : Int) : Bool := decide (0 ≤ pp ∧ pp ≤ 47 ∧ newE cb cr pb ps = 0)
def sameP (pp : Int) (l : List (List Int)) (j : Nat) : Bool := decide (rc l j 0 = pp)
def va7 (l : List (List Int)) (k : Nat) : Bool := vaB (rc l k 0) (rc l k 1) (rc l k 2) (rc l k 3) (rc l k 4) (rc l k 5) (rc l k 6)
def vp5 (l : List (List Int)) (k : Nat) : Bool := vpB (rc l k 0) (rc l k 1) (rc l k 2) (rc l k 3) (rc l k 4)
def okA (l : List (List Int)) (k : Nat) : Prop := va7 l k = true ∧ fnd (sameA (rc l k 0) (rc l k 1) l) l.length = k
def okP (l : List (List Int)) (k : Nat) : Prop := vp5 l k = true ∧ fnd (sameP (rc l k 0) l) l.length = k
instance (l : List (List Int)) (k : Nat) : Decidable (okA l k) := by unfold okA; infer_instance
instance (l : List (List Int)) (k : Nat) : Decidable (okP l k) := by unfold okP; infer_instance
def liB (la lp : List (List Int)) : Bool := decide (la.length ≤ 64 ∧ lp.length ≤ 64 ∧ (∀ k, k < la.length → okA la k) ∧ ∀ k, k < lp.length → okP lp k)
theorem li_long {la lp : List (List Int)} (h : ¬ (la.length ≤ 64 ∧ lp.length ≤ 64)) : false = liB la lp := (decide_eq_false fun q => h ⟨q.1, q.2.1⟩).symm
theorem li_a {la lp : List (List Int)} {k : Nat} (hk : k < la.length) (h : ¬ okA la k) : false = liB la lp := (decide_eq_false fun q => h (q.2.2.1 k hk)).symm
theorem li_p {la lp : List (List Int)} {k : Nat} (hk : k < lp.length) (h : ¬ okP lp k) : false = liB la lp := (decide_eq_false fun q => h (q.2.2.2 k hk)).symm
theorem li_yes {la lp : List (List Int)} (h1 : la.length ≤ 64) (h2 : lp.length ≤ 64) (h3 : ∀ k, k < la.length → okA la k) (h4 : ∀ k, k < lp.length → okP lp k) : true = liB la lp := (decide_eq_true ⟨h1, h2, h3, h4⟩).symm
theorem all_next {p : Nat → Prop} {k : Nat} (h : ∀ j, j < k → p j) (hk : p k) : ∀ j, j < k + 1 → p j := fun j hj => by
  by_cases e : j = k
  · subst e; exact hk
  · exact h j (by omega)
theorem validPolice_w (pp cb cr pb ps : Int) (w0 : World) :
    Calls Try.prog 48 #[.agg #[.int .i64 pp, .int .i64 cb, .int .i64 cr, .int .i64 pb, .int .i64 ps]] w0 (Ret w0 (.bool (vpB pp cb cr pb ps))) := by
 refine enterK 20 Try.func48 rfl rfl rfl ?_
 intro a hF Q0 hR0 hN0
 have hM := Mem.start w0
 refine wp_seq_k fun K1 hK1 => ?_
 refine wp_region_lit ?_
 refine wl (eN 1 1 (t := 69) (fun b => .pointer (some ⟨b, 0, none⟩)) #[.int .i64 pp, .int .i64 cb, .int .i64 cr, .int .i64 pb, .int .i64 ps] hF hM (by kernel_rfl) (fun _ => by kernel_rfl) fun bb1 a w hF hM => ?_)
 refine sB 1 [(2, .bool false)] hF (by kernel_rfl) fun a hF => ?_
 refine wpList_nil ?_
 refine hK1 _ _ ?_
 refine wp_seq_k fun K2 hK2 => ?_
 refine wp_region_lit ?_
 refine sB 1 [(6, .pointer (some ⟨bb1, 1, none⟩))] hF (by kernel_rfl) fun a hF => ?_
 refine wl (eL 7 1 1 (v := .agg #[.int .i64 cb, .int .i64 cr]) hF hM (by kernel_rfl) rfl rfl (by kernel_rfl) (by kernel_rfl) fun a w hF hM => ?_)
 refine sB 1 [(8, .pointer (some ⟨bb1, 3, none⟩))] hF (by kernel_rfl) fun a hF => ?_
 refine wl (eL 9 1 3 (v := .agg #[.int .i64 pb, .int .i64 ps]) hF hM (by kernel_rfl) rfl rfl (by kernel_rfl) (by kernel_rfl) fun a w hF hM => ?_)
 refine wl (eM 10 (v := .tuple #[.agg #[.int .i64 0, .int .i64 (newC cb cr pb ps), .int .i64 (newP cb cr pb ps)], .int .i64 (newE cb cr pb ps)]) hF hM (by kernel_rfl) (yld_call (f := 33) (args := #[.agg #[.int .i64 cb, .int .i64 cr], .agg #[.int .i64 pb, .int .i64 ps]]) hF (by kernel_rfl) (fun _ => by kernel_rfl) (fun w hM => meterNew_w cb cr pb ps w)) fun a w hF hM => ?_)
 refine sB 3 [(5, .tuple #[.agg #[.int .i64 0, .int .i64 (newC cb cr pb ps), .int .i64 (newP cb cr pb ps)], .int .i64 (newE cb cr pb ps)]), (11, .agg #[.int .i64 0, .int .i64 (newC cb cr pb ps), .int .i64 (newP cb cr pb ps)]), (12, .int .i64 (newE cb cr pb ps))] hF (by kernel_rfl) fun a hF => ?_
 refine wl (eN 3 2 (t := 80) (fun b => .pointer (some ⟨b, 0, none⟩)) #[.int .i64 0, .int .i64 0, .int .i64 0] hF hM (by kernel_rfl) (fun _ => by kernel_rfl) fun bb2 a w hF hM => ?_)
 refine wl (sStore (i := 2) (off := 0) (cs' := #[.int .i64 0, .int .i64 (newC cb cr pb ps), .int .i64 (newP cb cr pb ps)]) hF hM (by kernel_rfl) rfl rfl (by kernel_rfl) (by kernel_rfl) rfl (by kernel_rfl) fun w hM => ?_)
 refine sB 1 [(4, .int .i64 (newE cb cr pb ps))] hF (by kernel_rfl) fun a hF => ?_
 refine wpList_nil ?_
 refine hK2 _ _ ?_
 refine wp_seq_k fun K3 hK3 => ?_
 by_cases hz1 : 0 ≤ pp
 ·skip
  by_cases hz2 : pp ≤ 47
  ·skip
   refine wp_region_lit ?_
   refine sB 1 [(13, .pointer (some ⟨bb1, 0, none⟩))] hF (by kernel_rfl) fun a hF => ?_
   refine wl (eL 14 1 0 (v := .int .i64 pp) hF hM (by kernel_rfl) rfl rfl (by kernel_rfl) (by kernel_rfl) fun a w hF hM => ?_)
   refine wl (eM 15 (v := .bool true) hF hM (by kernel_rfl) (yld_call (f := 31) (args := #[.int .i64 pp, .int .i64 0, .int .i64 47]) hF (by kernel_rfl) (fun _ => by kernel_rfl) (fun w hM => fiw_yes pp 0 47 w hz1 hz2)) fun a w hF hM => ?_)
   refine sB 5 [(16, .bool true), (17, .int .i64 (newE cb cr pb ps)), (18, .bool (decide (newE cb cr pb ps = 0))), (19, .bool (decide (newE cb cr pb ps = 0))), (2, .bool (decide (newE cb cr pb ps = 0)))] hF (by kernel_rfl) fun a hF => ?_
   refine wpList_nil ?_
   refine hK3 _ _ ?_
   refine wp_ret ?_
   refine hR0 _ _ ?_
   refine ret_of hF hM (.tmp rfl (.nil)) ?_
   exact ⟨ret_bool (by unfold vpB; first | exact (decide_eq_true (by omega)).symm | exact (decide_eq_false (by omega)).symm | exact decide_eq_decide.2 (by omega)), hM.bel⟩
  ·skip
   refine wp_region_lit ?_
   refine sB 1 [(13, .pointer (some ⟨bb1, 0, none⟩))] hF (by kernel_rfl) fun a hF => ?_
   refine wl (eL 14 1 0 (v := .int .i64 pp) hF hM (by kernel_rfl) rfl rfl (by kernel_rfl) (by kernel_rfl) fun a w hF hM => ?_)
   refine wl (eM 15 (v := .bool false) hF hM (by kernel_rfl) (yld_call (f := 31) (args := #[.int .i64 pp, .int .i64 0, .int .i64 47]) hF (by kernel_rfl) (fun _ => by kernel_rfl) (fun w hM => fiw_no pp 0 47 w (.inr hz2))) fun a w hF hM => ?_)
   refine sB 5 [(16, .bool false), (17, undef), (18, undef), (19, .bool false), (2, .bool false)] hF (by kernel_rfl) fun a hF => ?_
   refine wpList_nil ?_
   refine hK3 _ _ ?_
   refine wp_ret ?_
   refine hR0 _ _ ?_
   refine ret_of hF hM (.tmp rfl (.nil)) ?_
   exact ⟨ret_bool (by unfold vpB; first | exact (decide_eq_true (by omega)).symm | exact (decide_eq_false (by omega)).symm | exact decide_eq_decide.2 (by omega)), hM.bel⟩
 ·skip
  refine wp_region_lit ?_
  refine sB 1 [(13, .pointer (some ⟨bb1, 0, none⟩))] hF (by kernel_rfl) fun a hF => ?_
  refine wl (eL 14 1 0 (v := .int .i64 pp) hF hM (by kernel_rfl) rfl rfl (by kernel_rfl) (by kernel_rfl) fun a w hF hM => ?_)
  refine wl (eM 15 (v := .bool false) hF hM (by kernel_rfl) (yld_call (f := 31) (args := #[.int .i64 pp, .int .i64 0, .int .i64 47]) hF (by kernel_rfl) (fun _ => by kernel_rfl) (fun w hM => fiw_no pp 0 47 w (.inl hz1))) fun a w hF hM => ?_)
  refine sB 5 [(16, .bool false), (17, undef), (18, undef), (19, .bool false), (2, .bool false)] hF (by kernel_rfl) fun a hF => ?_
  refine wpList_nil ?_
  refine hK3 _ _ ?_
  refine wp_ret ?_
  refine hR0 _ _ ?_
  refine ret_of hF hM (.tmp rfl (.nil)) ?_
  exact ⟨ret_bool (by unfold vpB; first | exact (decide_eq_true (by omega)).symm | exact (decide_eq_false (by omega)).symm | exact decide_eq_decide.2 (by omega)), hM.bel⟩

set_option maxRecDepth 100000 in
theorem find2_w (pp cb cr pb ps : Int) (B : Nat) (A : Option Addr) (l : List (List Int)) (cl : Nat) (w0 : World) (hA : Ro w0 A (flatR l)) (hW : WR 5 l) (hl : l.length ≤ 64) (hB : Ro w0 (some ⟨B, 0, none⟩) [.int .i64 pp, .int .i64 cb, .int .i64 cr, .int .i64 pb, .int .i64 ps]) :
    Calls Try.prog 49 #[.slice A l.length cl, .func (.func 47) #[] #[.pointer (some ⟨B, 0, none⟩)]] w0 (Ret w0 (.int .i64 (fnd (sameP pp l) l.length))) := by
 refine enterK 19 Try.func49 rfl rfl rfl ?_
 intro a hF Q0 hR0 hN0
 have hM := Mem.start w0
 replace hM := hM.addOld 1 hA (Nat.le_refl _)
 replace hM := hM.addOld 2 hB (Nat.le_refl _)
 refine wp_seq_k fun K1 hK1 => ?_
 refine wp_region_lit ?_
 refine sB 1 [(4, .int .i64 0)] hF (by kernel_rfl) fun a hF => ?_
 refine wpList_nil ?_
 refine hK1 _ _ ?_
 refine wp_seq_k fun K2 hK2 => ?_
 refine wp_seq_k fun K3 hK3 => ?_
 refine wp_region_lit ?_
 refine sB 3 [(7, .slice A l.length cl), (8, .int .i64 (l.length : Int)), (9, .int .i64 0)] hF (by kernel_rfl) fun a hF => ?_
 refine wpList_nil ?_
 refine hK3 _ _ ?_
 refine wp_block ?_
 refine wp_loop_k (G := Nat) (fun gg a w => Fr 19 [(9, some (.int .i64 (gg : Int))), (1, some (.func (.func 47) #[] #[.pointer (some ⟨B, 0, none⟩)])), (7, some (.slice A l.length cl)), (8, some (.int .i64 (l.length : Int)))] a ∧ Mem w0.heap.size w0 [(1, some (.ro A (flatR l))), (2, some (.ro (some ⟨B, 0, none⟩) [.int .i64 pp, .int .i64 cb, .int .i64 cr, .int .i64 pb, .int .i64 ps]))] w ∧ ((gg : Int) ≤ (l.length : Int)) ∧ (∀ j, j < gg → sameP pp l j = false)) (fun gg => l.length - gg) (0) ?_ ?_
 ·refine ⟨(((((Fr.nil hF).c hF (i := 8) rfl rfl).c hF (i := 7) rfl rfl).c hF (i := 1) rfl rfl).c hF (i := 9) rfl (vi (show (0 : Int) = (0 : Int) from by omega))), (hM.sub ((Sub.nil.c (k := 2) rfl rfl).c (k := 1) rfl rfl)), (show (0 : Int) ≤ (l.length : Int) from by omega), (show ∀ j, j < 0 → sameP pp l j = false from by exact fun j hj => by omega)⟩
 ·intro gg a w hI
  intro K4 hK4
  obtain ⟨k, rfl⟩ : ∃ x, x = gg := ⟨_, rfl⟩
  try dsimp only at hI hK4
  obtain ⟨hF, hM, hz1, hz2⟩ := hI
  refine wp_seq_k fun K5 hK5 => ?_
  refine wp_region_lit ?_
  refine sB 1 [(10, .bool (decide ((k : Int) < (l.length : Int))))] hF (by kernel_rfl) fun a hF => ?_
  refine wpList_nil ?_
  refine hK5 _ _ ?_
  refine wp_seq_k fun K6 hK6 => ?_
  by_cases hz3 : (k : Int) < (l.length : Int)
  ·skip
   replace hF := hF.c hF (i := 10) (v := .bool true) rfl (bT hz3)
   refine cT hF (by kernel_rfl) (by kernel_rfl) ?_
   refine wp_skip ?_
   refine hK6 _ _ ?_
   refine wp_seq_k fun K7 hK7 => ?_
   refine wp_block ?_
   refine wp_seq_k fun K8 hK8 => ?_
   refine wp_region_lit ?_
   refine sB 1 [(11, .int .i64 (k : Int))] hF (by kernel_rfl) fun a hF => ?_
   refine wl (eM 12 (v := .pointer (some (ea A (k * 5)))) hF hM (by kernel_rfl) (yld_ix (kd := .i64) (e := 69) (len := l.length) (cap := cl) (i := (k : Int)) (size := 5) (A := A) hF rfl (by kernel_rfl) (by kernel_rfl) (by kernel_rfl) (by kernel_rfl) (by kernel_rfl) (roK 1 rfl) (by omega) (by omega) (by rw [flatR_length hW]; (try simp only [List.length_map, List.length_append, List.length_replicate, List.length_set, List.length_cons, List.length_nil, flat2_length, List.length_take]); omega)) fun a w hF hM => ?_)
   refine wl (eM 13 (v := .agg #[.int .i64 (rc l k 0), .int .i64 (rc l k 1), .int .i64 (rc l k 2), .int .i64 (rc l k 3), .int .i64 (rc l k 4)]) hF hM (by kernel_rfl) (yld_roM (A := A) (j := k * 5) (us := [.int .i64 (rc l k 0), .int .i64 (rc l k 1), .int .i64 (rc l k 2), .int .i64 (rc l k 3), .int .i64 (rc l k 4)]) hF rfl (by kernel_rfl) (by kernel_rfl) (roK 1 rfl) (by kernel_rfl) rfl (rc_sub (k := k) (f := 0) (m := 5) hW (by omega) (by decide) rfl)) fun a w hF hM => ?_)
   refine wl (eN 6 3 (t := 69) (fun b => .pointer (some ⟨b, 0, none⟩)) #[.int .i64 0, .int .i64 0, .int .i64 0, .int .i64 0, .int .i64 0] hF hM (by kernel_rfl) (fun _ => by kernel_rfl) fun bb1 a w hF hM => ?_)
   refine sB 1 [(5, .int .i64 (k : Int))] hF (by kernel_rfl) fun a hF => ?_
   refine wl (sStore (i := 3) (off := 0) (cs' := #[.int .i64 (rc l k 0), .int .i64 (rc l k 1), .int .i64 (rc l k 2), .int .i64 (rc l k 3), .int .i64 (rc l k 4)]) hF hM (by kernel_rfl) rfl rfl (by kernel_rfl) (by kernel_rfl) rfl (by kernel_rfl) fun w hM => ?_)
   refine wpList_nil ?_
   refine hK8 _ _ ?_
   refine wp_seq_k fun K9 hK9 => ?_
   refine wp_region_lit ?_
   refine sB 1 [(14, .func (.func 47) #[] #[.pointer (some ⟨B, 0, none⟩)])] hF (by kernel_rfl) fun a hF => ?_
   refine wl (eL 15 3 0 (v := .agg #[.int .i64 (rc l k 0), .int .i64 (rc l k 1), .int .i64 (rc l k 2), .int .i64 (rc l k 3), .int .i64 (rc l k 4)]) hF hM (by kernel_rfl) rfl rfl (by kernel_rfl) (by kernel_rfl) fun a w hF hM => ?_)
   refine wl (sC (f := 47) (args := #[.agg #[.int .i64 (rc l k 0), .int .i64 (rc l k 1), .int .i64 (rc l k 2), .int .i64 (rc l k 3), .int .i64 (rc l k 4)], .pointer (some ⟨B, 0, none⟩)]) hF (by kernel_rfl) rfl (by decide) (by kernel_rfl) (fun _ => by kernel_rfl) ?_)
   refine enterK 9 Try.func47 rfl rfl rfl ?_
   intro a1 hF1 QR10 hR10 hNR10
   refine wp_seq_k fun K11 hK11 => ?_
   refine wp_region_lit ?_
   refine wl (eN 2 4 (t := 69) (fun b => .pointer (some ⟨b, 0, none⟩)) #[.int .i64 (rc l k 0), .int .i64 (rc l k 1), .int .i64 (rc l k 2), .int .i64 (rc l k 3), .int .i64 (rc l k 4)] hF1 hM (by kernel_rfl) (fun _ => by kernel_rfl) fun bb2 a1 w hF1 hM => ?_)
   refine sB 1 [(3, .bool false)] hF1 (by kernel_rfl) fun a1 hF1 => ?_
   refine wpList_nil ?_
   refine hK11 _ _ ?_
   refine wp_seq_k fun K12 hK12 => ?_
   refine wp_region_lit ?_
   refine sB 1 [(4, .pointer (some ⟨bb2, 0, none⟩))] hF1 (by kernel_rfl) fun a1 hF1 => ?_
   refine wl (eL 5 4 0 (v := .int .i64 (rc l k 0)) hF1 hM (by kernel_rfl) rfl rfl (by kernel_rfl) (by kernel_rfl) fun a1 w hF1 hM => ?_)
   refine sB 1 [(6, .pointer (some ⟨B, 0, none⟩))] hF1 (by kernel_rfl) fun a1 hF1 => ?_
   refine wl (eM 7 (v := .int .i64 pp) hF1 hM (by kernel_rfl) (yld_ro1 (A := (some ⟨B, 0, none⟩)) (j := 0) hF1 rfl (by kernel_rfl) (by kernel_rfl) (roK 2 rfl) (by kernel_rfl) rfl) fun a1 w hF1 hM => ?_)
   refine sB 2 [(8, .bool (decide (rc l k 0 = pp))), (3, .bool (decide (rc l k 0 = pp)))] hF1 (by kernel_rfl) fun a1 hF1 => ?_
   refine wpList_nil ?_
   refine hK12 _ _ ?_
   refine wp_ret ?_
   refine hR10 _ _ ?_
   refine ret_of hF1 hM (.tmp rfl (.nil)) ⟨_, rfl, ?_⟩
   intro a hF
   refine wpList_nil ?_
   refine hK9 _ _ ?_
   by_cases hz4 : rc l k 0 = pp
   ·skip
    replace hF := hF.c hF (i := 16) (v := .bool true) rfl (bT hz4)
    refine cT hF (by kernel_rfl) (by kernel_rfl) ?_
    refine wp_seq_k fun K13 hK13 => ?_
    refine wp_region_lit ?_
    refine sB 2 [(17, .int .i64 (k : Int)), (4, .int .i64 (k : Int))] hF (by kernel_rfl) fun a hF => ?_
    refine wpList_nil ?_
    refine hK13 _ _ ?_
    refine wp_ret ?_
    refine hR0 _ _ ?_
    refine ret_of hF hM (.tmp rfl (.nil)) ?_
    exact ⟨ret_int (fnd_some (k := k) (by omega) (decide_eq_true (by omega)) (by assumption)).symm, hM.bel⟩
   ·skip
    replace hF := hF.c hF (i := 16) (v := .bool false) rfl (bF hz4)
    refine cF hF (by kernel_rfl) (by kernel_rfl) ?_
    refine wp_skip ?_
    refine hK7 _ _ ?_
    refine wp_region_lit ?_
    refine wl (eP 18 (v0 := .int .i64 (IntKind.i64.wrap ((k : Int) + 1))) (v := .int .i64 ((k : Int) + 1)) hF (by kernel_rfl) (fun _ => by kernel_rfl) (wi (by omega)) fun a hF => ?_)
    refine sB 1 [(9, .int .i64 ((k : Int) + 1))] hF (by kernel_rfl) fun a hF => ?_
    refine wpList_nil ?_
    refine hK4 _ _ ⟨(k + 1), ⟨(((((Fr.nil hF).c hF (i := 8) rfl rfl).c hF (i := 7) rfl rfl).c hF (i := 1) rfl rfl).c hF (i := 9) rfl (vi (show ((k : Int) + 1 : Int) = ((k + 1) : Int) from by omega))), (hM.sub ((Sub.nil.c (k := 2) rfl rfl).c (k := 1) rfl rfl)), (show ((k + 1) : Int) ≤ (l.length : Int) from by omega), (show ∀ j, j < (k + 1) → sameP pp l j = false from by exact no_next (by assumption) (decide_eq_false (by omega)))⟩, (show l.length - (k + 1) < l.length - k from by omega)⟩
  ·skip
   replace hF := hF.c hF (i := 10) (v := .bool false) rfl (bF hz3)
   refine cF hF (by kernel_rfl) (by kernel_rfl) ?_
   refine wp_exit ?_
   refine hK2 _ _ ?_
   refine wp_seq_k fun K14 hK14 => ?_
   refine wp_region_lit ?_
   refine sB 1 [(4, .int .i64 (-1))] hF (by kernel_rfl) fun a hF => ?_
   refine wpList_nil ?_
   refine hK14 _ _ ?_
   refine wp_ret ?_
   refine hR0 _ _ ?_
   refine ret_of hF hM (.tmp rfl (.nil)) ?_
   exact ⟨ret_int (fnd_none (fun j hj => ‹∀ j, j < k → sameP pp l j = false› j (by omega))).symm, hM.bel⟩

set_option maxRecDepth 100000 in
theorem listed_w (A : Option Addr) (la : List (List Int)) (ca : Nat) (A2 : Option Addr) (lq : List (List Int)) (cq_ : Nat) (w0 : World) (hA : Ro w0 A (flatR la)) (hW : WR 7 la) (hA2 : Ro w0 A2 (flatR lq)) (hW2 : WR 5 lq) :
    Calls Try.prog 30 #[.slice A la.length ca, .slice A2 lq.length cq_] w0 (Ret w0 (.bool (liB la lq))) := by
 refine enterK 57 Try.func30 rfl rfl rfl ?_
 intro a hF Q0 hR0 hN0
 have hM := Mem.start w0
 replace hM := hM.addOld 1 hA (Nat.le_refl _)
 replace hM := hM.addOld 2 hA2 (Nat.le_refl _)
 refine wp_seq_k fun K1 hK1 => ?_
 refine wp_region_lit ?_
 refine sB 1 [(4, .bool false)] hF (by kernel_rfl) fun a hF => ?_
 refine wpList_nil ?_
 refine hK1 _ _ ?_
 refine wp_seq_k fun K2 hK2 => ?_
 refine wp_seq_k fun K3 hK3 => ?_
 by_cases hz1 : 64 < (la.length : Int)
 ·skip
  refine wp_region_lit ?_
  refine sB 2 [(11, .slice A la.length ca), (12, .int .i64 (la.length : Int))] hF (by kernel_rfl) fun a hF => ?_
  refine wl (eP 13 (v0 := .bool (decide (64 < (la.length : Int)))) (v := .bool true) hF (by kernel_rfl) (fun _ => by kernel_rfl) (bT hz1) fun a hF => ?_)
  refine sB 5 [(14, .bool true), (15, undef), (16, undef), (17, undef), (18, .bool true)] hF (by kernel_rfl) fun a hF => ?_
  refine wpList_nil ?_
  refine hK3 _ _ ?_
  refine cT hF (by kernel_rfl) (by kernel_rfl) ?_
  refine wp_seq_k fun K4 hK4 => ?_
  refine wp_region_lit ?_
  refine sB 1 [(4, .bool false)] hF (by kernel_rfl) fun a hF => ?_
  refine wpList_nil ?_
  refine hK4 _ _ ?_
  refine wp_ret ?_
  refine hR0 _ _ ?_
  refine ret_of hF hM (.tmp rfl (.nil)) ?_
  exact ⟨ret_bool (li_long (by omega)), hM.bel⟩
 ·skip
  refine wp_region_lit ?_
  refine sB 2 [(11, .slice A la.length ca), (12, .int .i64 (la.length : Int))] hF (by kernel_rfl) fun a hF => ?_
  refine wl (eP 13 (v0 := .bool (decide (64 < (la.length : Int)))) (v := .bool false) hF (by kernel_rfl) (fun _ => by kernel_rfl) (bF hz1) fun a hF => ?_)
  refine sB 5 [(14, .bool false), (15, .slice A2 lq.length cq_), (16, .int .i64 (lq.length : Int)), (17, .bool (decide (64 < (lq.length : Int)))), (18, .bool (decide (64 < (lq.length : Int))))] hF (by kernel_rfl) fun a hF => ?_
  refine wpList_nil ?_
  refine hK3 _ _ ?_
  by_cases hz2 : 64 < (lq.length : Int)
  ·skip
   replace hF := hF.c hF (i := 17) (v := .bool true) rfl (bT hz2)
   replace hF := hF.c hF (i := 18) (v := .bool true) rfl (bT hz2)
   refine cT hF (by kernel_rfl) (by kernel_rfl) ?_
   refine wp_seq_k fun K5 hK5 => ?_
   refine wp_region_lit ?_
   refine sB 1 [(4, .bool false)] hF (by kernel_rfl) fun a hF => ?_
   refine wpList_nil ?_
   refine hK5 _ _ ?_
   refine wp_ret ?_
   refine hR0 _ _ ?_
   refine ret_of hF hM (.tmp rfl (.nil)) ?_
   exact ⟨ret_bool (li_long (by omega)), hM.bel⟩
  ·skip
   replace hF := hF.c hF (i := 17) (v := .bool false) rfl (bF hz2)
   replace hF := hF.c hF (i := 18) (v := .bool false) rfl (bF hz2)
   refine cF hF (by kernel_rfl) (by kernel_rfl) ?_
   refine wp_skip ?_
   refine hK2 _ _ ?_
   refine wp_seq_k fun K6 hK6 => ?_
   refine wp_seq_k fun K7 hK7 => ?_
   refine wp_region_lit ?_
   refine sB 3 [(19, .slice A la.length ca), (20, .int .i64 (la.length : Int)), (21, .int .i64 0)] hF (by kernel_rfl) fun a hF => ?_
   refine wpList_nil ?_
   refine hK7 _ _ ?_
   refine wp_block ?_
   refine wp_loop_k (G := Nat) (fun gg a w => Fr 57 [(21, some (.int .i64 (gg : Int))), (0, some (.slice A la.length ca)), (1, some (.slice A2 lq.length cq_)), (19, some (.slice A la.length ca)), (20, some (.int .i64 (la.length : Int)))] a ∧ Mem w0.heap.size w0 [(1, some (.ro A (flatR la))), (2, some (.ro A2 (flatR lq)))] w ∧ ((gg : Int) ≤ (la.length : Int)) ∧ (∀ j, j < gg → okA la j)) (fun gg => la.length - gg) (0) ?_ ?_
   ·refine ⟨((((((Fr.nil hF).c hF (i := 20) rfl rfl).c hF (i := 19) rfl rfl).c hF (i := 1) rfl rfl).c hF (i := 0) rfl rfl).c hF (i := 21) rfl (vi (show (0 : Int) = (0 : Int) from by omega))), (hM.sub ((Sub.nil.c (k := 2) rfl rfl).c (k := 1) rfl rfl)), (show (0 : Int) ≤ (la.length : Int) from by omega), (show ∀ j, j < 0 → okA la j from by exact fun j hj => by omega)⟩
   ·intro gg a w hI
    intro K8 hK8
    obtain ⟨k, rfl⟩ : ∃ x, x = gg := ⟨_, rfl⟩
    try dsimp only at hI hK8
    obtain ⟨hF, hM, hz3, hz4⟩ := hI
    refine wp_seq_k fun K9 hK9 => ?_
    refine wp_region_lit ?_
    refine sB 1 [(22, .bool (decide ((k : Int) < (la.length : Int))))] hF (by kernel_rfl) fun a hF => ?_
    refine wpList_nil ?_
    refine hK9 _ _ ?_
    refine wp_seq_k fun K10 hK10 => ?_
    by_cases hz5 : (k : Int) < (la.length : Int)
    ·skip
     replace hF := hF.c hF (i := 22) (v := .bool true) rfl (bT hz5)
     refine cT hF (by kernel_rfl) (by kernel_rfl) ?_
     refine wp_skip ?_
     refine hK10 _ _ ?_
     refine wp_seq_k fun K11 hK11 => ?_
     refine wp_block ?_
     refine wp_seq_k fun K12 hK12 => ?_
     refine wp_region_lit ?_
     refine sB 1 [(23, .int .i64 (k : Int))] hF (by kernel_rfl) fun a hF => ?_
     refine wl (eM 24 (v := .pointer (some (ea A (k * 7)))) hF hM (by kernel_rfl) (yld_ix (kd := .i64) (e := 57) (len := la.length) (cap := ca) (i := (k : Int)) (size := 7) (A := A) hF rfl (by kernel_rfl) (by kernel_rfl) (by kernel_rfl) (by kernel_rfl) (by kernel_rfl) (roK 1 rfl) (by omega) (by omega) (by rw [flatR_length hW]; (try simp only [List.length_map, List.length_append, List.length_replicate, List.length_set, List.length_cons, List.length_nil, flat2_length, List.length_take]); omega)) fun a w hF hM => ?_)
     refine wl (eM 25 (v := .agg #[.int .i64 (rc la k 0), .int .i64 (rc la k 1), .int .i64 (rc la k 2), .int .i64 (rc la k 3), .int .i64 (rc la k 4), .int .i64 (rc la k 5), .int .i64 (rc la k 6)]) hF hM (by kernel_rfl) (yld_roM (A := A) (j := k * 7) (us := [.int .i64 (rc la k 0), .int .i64 (rc la k 1), .int .i64 (rc la k 2), .int .i64 (rc la k 3), .int .i64 (rc la k 4), .int .i64 (rc la k 5), .int .i64 (rc la k 6)]) hF rfl (by kernel_rfl) (by kernel_rfl) (roK 1 rfl) (by kernel_rfl) rfl (rc_sub (k := k) (f := 0) (m := 7) hW (by omega) (by decide) rfl)) fun a w hF hM => ?_)
     refine wl (eN 6 3 (t := 57) (fun b => .pointer (some ⟨b, 0, none⟩)) #[.int .i64 0, .int .i64 0, .int .i64 0, .int .i64 0, .int .i64 0, .int .i64 0, .int .i64 0] hF hM (by kernel_rfl) (fun _ => by kernel_rfl) fun bb1 a w hF hM => ?_)
     refine sB 1 [(5, .int .i64 (k : Int))] hF (by kernel_rfl) fun a hF => ?_
     refine wl (sStore (i := 3) (off := 0) (cs' := #[.int .i64 (rc la k 0), .int .i64 (rc la k 1), .int .i64 (rc la k 2), .int .i64 (rc la k 3), .int .i64 (rc la k 4), .int .i64 (rc la k 5), .int .i64 (rc la k 6)]) hF hM (by kernel_rfl) rfl rfl (by kernel_rfl) (by kernel_rfl) rfl (by kernel_rfl) fun w hM => ?_)
     refine wpList_nil ?_
     refine hK12 _ _ ?_
     refine wp_seq_k fun K13 hK13 => ?_
     refine wp_region_lit ?_
     refine sB 2 [(26, .func (.func 44) #[] #[.pointer (some ⟨bb1, 0, none⟩)]), (7, .func (.func 44) #[] #[.pointer (some ⟨bb1, 0, none⟩)])] hF (by kernel_rfl) fun a hF => ?_
     refine wpList_nil ?_
     refine hK13 _ _ ?_
     refine wp_seq_k fun K14 hK14 => ?_
     cases hz6 : (vaB (rc la k 0) (rc la k 1) (rc la k 2) (rc la k 3) (rc la k 4) (rc la k 5) (rc la k 6))
     ·skip
      refine wp_region_lit ?_
      refine wl (eL 27 3 0 (v := .agg #[.int .i64 (rc la k 0), .int .i64 (rc la k 1), .int .i64 (rc la k 2), .int .i64 (rc la k 3), .int .i64 (rc la k 4), .int .i64 (rc la k 5), .int .i64 (rc la k 6)]) hF hM (by kernel_rfl) rfl rfl (by kernel_rfl) (by kernel_rfl) fun a w hF hM => ?_)
      refine wl (eM 28 (v := .bool false) hF hM (by kernel_rfl) (Yld.to (yld_call (f := 45) (args := #[.agg #[.int .i64 (rc la k 0), .int .i64 (rc la k 1), .int .i64 (rc la k 2), .int .i64 (rc la k 3), .int .i64 (rc la k 4), .int .i64 (rc la k 5), .int .i64 (rc la k 6)]]) hF (by kernel_rfl) (fun _ => by kernel_rfl) (fun w hM => validAccept_w (rc la k 0) (rc la k 1) (rc la k 2) (rc la k 3) (rc la k 4) (rc la k 5) (rc la k 6) w)) (congrArg Value.bool hz6)) fun a w hF hM => ?_)
      refine sB 8 [(29, .bool true), (30, .bool true), (31, undef), (32, undef), (33, undef), (34, undef), (35, undef), (36, .bool true)] hF (by kernel_rfl) fun a hF => ?_
      refine wpList_nil ?_
      refine hK14 _ _ ?_
      refine cT hF (by kernel_rfl) (by kernel_rfl) ?_
      refine wp_seq_k fun K15 hK15 => ?_
      refine wp_region_lit ?_
      refine sB 1 [(4, .bool false)] hF (by kernel_rfl) fun a hF => ?_
      refine wpList_nil ?_
      refine hK15 _ _ ?_
      refine wp_ret ?_
      refine hR0 _ _ ?_
      refine ret_of hF hM (.tmp rfl (.nil)) ?_
      exact ⟨ret_bool (li_a (k := k) (by omega) (fun z => by exact absurd z.1 (by show ¬ va7 la k = true; unfold va7; rw [hz6]; decide))), hM.bel⟩
     ·skip
      refine wp_region_lit ?_
      refine wl (eL 27 3 0 (v := .agg #[.int .i64 (rc la k 0), .int .i64 (rc la k 1), .int .i64 (rc la k 2), .int .i64 (rc la k 3), .int .i64 (rc la k 4), .int .i64 (rc la k 5), .int .i64 (rc la k 6)]) hF hM (by kernel_rfl) rfl rfl (by kernel_rfl) (by kernel_rfl) fun a w hF hM => ?_)
      refine wl (eM 28 (v := .bool true) hF hM (by kernel_rfl) (Yld.to (yld_call (f := 45) (args := #[.agg #[.int .i64 (rc la k 0), .int .i64 (rc la k 1), .int .i64 (rc la k 2), .int .i64 (rc la k 3), .int .i64 (rc la k 4), .int .i64 (rc la k 5), .int .i64 (rc la k 6)]]) hF (by kernel_rfl) (fun _ => by kernel_rfl) (fun w hM => validAccept_w (rc la k 0) (rc la k 1) (rc la k 2) (rc la k 3) (rc la k 4) (rc la k 5) (rc la k 6) w)) (congrArg Value.bool hz6)) fun a w hF hM => ?_)
      refine sB 4 [(29, .bool false), (30, .bool false), (31, .slice A la.length ca), (32, .func (.func 44) #[] #[.pointer (some ⟨bb1, 0, none⟩)])] hF (by kernel_rfl) fun a hF => ?_
      refine wl (eM 33 (v := .int .i64 (fnd (sameA (rc la k 0) (rc la k 1) la) la.length)) hF hM (by kernel_rfl) (yld_call (f := 46) (args := #[.slice A la.length ca, .func (.func 44) #[] #[.pointer (some ⟨bb1, 0, none⟩)]]) hF (by kernel_rfl) (fun _ => by kernel_rfl) (fun w hM => find1_w (rc la k 0) (rc la k 1) (rc la k 2) (rc la k 3) (rc la k 4) (rc la k 5) (rc la k 6) bb1 A la _ w (hM.ok 1 _ rfl) hW (by omega) (hM.roRow (k := 3) rfl))) fun a w hF hM => ?_)
      refine sB 3 [(34, .int .i64 (k : Int)), (35, .bool (!decide (fnd (sameA (rc la k 0) (rc la k 1) la) la.length = (k : Int)))), (36, .bool (!decide (fnd (sameA (rc la k 0) (rc la k 1) la) la.length = (k : Int))))] hF (by kernel_rfl) fun a hF => ?_
      refine wpList_nil ?_
      refine hK14 _ _ ?_
      by_cases hz7 : fnd (sameA (rc la k 0) (rc la k 1) la) la.length = (k : Int)
      ·skip
       replace hF := hF.c hF (i := 35) (v := .bool false) rfl (nT hz7)
       replace hF := hF.c hF (i := 36) (v := .bool false) rfl (nT hz7)
       refine cF hF (by kernel_rfl) (by kernel_rfl) ?_
       refine wp_skip ?_
       refine hK11 _ _ ?_
       refine wp_region_lit ?_
       refine wl (eP 37 (v0 := .int .i64 (IntKind.i64.wrap ((k : Int) + 1))) (v := .int .i64 ((k : Int) + 1)) hF (by kernel_rfl) (fun _ => by kernel_rfl) (wi (by omega)) fun a hF => ?_)
       refine sB 1 [(21, .int .i64 ((k : Int) + 1))] hF (by kernel_rfl) fun a hF => ?_
       refine wpList_nil ?_
       refine hK8 _ _ ⟨(k + 1), ⟨((((((Fr.nil hF).c hF (i := 20) rfl rfl).c hF (i := 19) rfl rfl).c hF (i := 1) rfl rfl).c hF (i := 0) rfl rfl).c hF (i := 21) rfl (vi (show ((k : Int) + 1 : Int) = ((k + 1) : Int) from by omega))), (hM.sub ((Sub.nil.c (k := 2) rfl rfl).c (k := 1) rfl rfl)), (show ((k + 1) : Int) ≤ (la.length : Int) from by omega), (show ∀ j, j < (k + 1) → okA la j from by exact all_next (by assumption) ⟨hz6, by assumption⟩)⟩, (show la.length - (k + 1) < la.length - k from by omega)⟩
      ·skip
       replace hF := hF.c hF (i := 35) (v := .bool true) rfl (nF hz7)
       replace hF := hF.c hF (i := 36) (v := .bool true) rfl (nF hz7)
       refine cT hF (by kernel_rfl) (by kernel_rfl) ?_
       refine wp_seq_k fun K16 hK16 => ?_
       refine wp_region_lit ?_
       refine sB 1 [(4, .bool false)] hF (by kernel_rfl) fun a hF => ?_
       refine wpList_nil ?_
       refine hK16 _ _ ?_
       refine wp_ret ?_
       refine hR0 _ _ ?_
       refine ret_of hF hM (.tmp rfl (.nil)) ?_
       exact ⟨ret_bool (li_a (k := k) (by omega) (fun z => by exact absurd z.2 (by assumption))), hM.bel⟩
    ·skip
     replace hF := hF.c hF (i := 22) (v := .bool false) rfl (bF hz5)
     refine cF hF (by kernel_rfl) (by kernel_rfl) ?_
     refine wp_exit ?_
     refine hK6 _ _ ?_
     refine wp_seq_k fun K17 hK17 => ?_
     refine wp_seq_k fun K18 hK18 => ?_
     refine wp_region_lit ?_
     refine sB 3 [(38, .slice A2 lq.length cq_), (39, .int .i64 (lq.length : Int)), (40, .int .i64 0)] hF (by kernel_rfl) fun a hF => ?_
     refine wpList_nil ?_
     refine hK18 _ _ ?_
     refine wp_block ?_
     refine wp_loop_k (G := Nat) (fun gg a w => Fr 57 [(40, some (.int .i64 (gg : Int))), (1, some (.slice A2 lq.length cq_)), (38, some (.slice A2 lq.length cq_)), (39, some (.int .i64 (lq.length : Int)))] a ∧ Mem w0.heap.size w0 [(1, some (.ro A (flatR la))), (2, some (.ro A2 (flatR lq)))] w ∧ ((gg : Int) ≤ (lq.length : Int)) ∧ (∀ j, j < gg → okP lq j)) (fun gg => lq.length - gg) (0) ?_ ?_
     ·refine ⟨(((((Fr.nil hF).c hF (i := 39) rfl rfl).c hF (i := 38) rfl rfl).c hF (i := 1) rfl rfl).c hF (i := 40) rfl (vi (show (0 : Int) = (0 : Int) from by omega))), (hM.sub ((Sub.nil.c (k := 2) rfl rfl).c (k := 1) rfl rfl)), (show (0 : Int) ≤ (lq.length : Int) from by omega), (show ∀ j, j < 0 → okP lq j from by exact fun j hj => by omega)⟩
     ·intro gg a w hI
      intro K19 hK19
      obtain ⟨q, rfl⟩ : ∃ x, x = gg := ⟨_, rfl⟩
      try dsimp only at hI hK19
      obtain ⟨hF, hM, hz8, hz9⟩ := hI
      refine wp_seq_k fun K20 hK20 => ?_
      refine wp_region_lit ?_
      refine sB 1 [(41, .bool (decide ((q : Int) < (lq.length : Int))))] hF (by kernel_rfl) fun a hF => ?_
      refine wpList_nil ?_
      refine hK20 _ _ ?_
      refine wp_seq_k fun K21 hK21 => ?_
      by_cases hz10 : (q : Int) < (lq.length : Int)
      ·skip
       replace hF := hF.c hF (i := 41) (v := .bool true) rfl (bT hz10)
       refine cT hF (by kernel_rfl) (by kernel_rfl) ?_
       refine wp_skip ?_
       refine hK21 _ _ ?_
       refine wp_seq_k fun K22 hK22 => ?_
       refine wp_block ?_
       refine wp_seq_k fun K23 hK23 => ?_
       refine wp_region_lit ?_
       refine sB 1 [(42, .int .i64 (q : Int))] hF (by kernel_rfl) fun a hF => ?_
       refine wl (eM 43 (v := .pointer (some (ea A2 (q * 5)))) hF hM (by kernel_rfl) (yld_ix (kd := .i64) (e := 69) (len := lq.length) (cap := cq_) (i := (q : Int)) (size := 5) (A := A2) hF rfl (by kernel_rfl) (by kernel_rfl) (by kernel_rfl) (by kernel_rfl) (by kernel_rfl) (roK 2 rfl) (by omega) (by omega) (by rw [flatR_length hW2]; (try simp only [List.length_map, List.length_append, List.length_replicate, List.length_set, List.length_cons, List.length_nil, flat2_length, List.length_take]); omega)) fun a w hF hM => ?_)
       refine wl (eM 44 (v := .agg #[.int .i64 (rc lq q 0), .int .i64 (rc lq q 1), .int .i64 (rc lq q 2), .int .i64 (rc lq q 3), .int .i64 (rc lq q 4)]) hF hM (by kernel_rfl) (yld_roM (A := A2) (j := q * 5) (us := [.int .i64 (rc lq q 0), .int .i64 (rc lq q 1), .int .i64 (rc lq q 2), .int .i64 (rc lq q 3), .int .i64 (rc lq q 4)]) hF rfl (by kernel_rfl) (by kernel_rfl) (roK 2 rfl) (by kernel_rfl) rfl (rc_sub (k := q) (f := 0) (m := 5) hW2 (by omega) (by decide) rfl)) fun a w hF hM => ?_)
       refine wl (eN 9 4 (t := 69) (fun b => .pointer (some ⟨b, 0, none⟩)) #[.int .i64 0, .int .i64 0, .int .i64 0, .int .i64 0, .int .i64 0] hF hM (by kernel_rfl) (fun _ => by kernel_rfl) fun bb2 a w hF hM => ?_)
       refine sB 1 [(8, .int .i64 (q : Int))] hF (by kernel_rfl) fun a hF => ?_
       refine wl (sStore (i := 4) (off := 0) (cs' := #[.int .i64 (rc lq q 0), .int .i64 (rc lq q 1), .int .i64 (rc lq q 2), .int .i64 (rc lq q 3), .int .i64 (rc lq q 4)]) hF hM (by kernel_rfl) rfl rfl (by kernel_rfl) (by kernel_rfl) rfl (by kernel_rfl) fun w hM => ?_)
       refine wpList_nil ?_
       refine hK23 _ _ ?_
       refine wp_seq_k fun K24 hK24 => ?_
       refine wp_region_lit ?_
       refine sB 2 [(45, .func (.func 47) #[] #[.pointer (some ⟨bb2, 0, none⟩)]), (10, .func (.func 47) #[] #[.pointer (some ⟨bb2, 0, none⟩)])] hF (by kernel_rfl) fun a hF => ?_
       refine wpList_nil ?_
       refine hK24 _ _ ?_
       refine wp_seq_k fun K25 hK25 => ?_
       cases hz11 : (vpB (rc lq q 0) (rc lq q 1) (rc lq q 2) (rc lq q 3) (rc lq q 4))
       ·skip
        refine wp_region_lit ?_
        refine wl (eL 46 4 0 (v := .agg #[.int .i64 (rc lq q 0), .int .i64 (rc lq q 1), .int .i64 (rc lq q 2), .int .i64 (rc lq q 3), .int .i64 (rc lq q 4)]) hF hM (by kernel_rfl) rfl rfl (by kernel_rfl) (by kernel_rfl) fun a w hF hM => ?_)
        refine wl (eM 47 (v := .bool false) hF hM (by kernel_rfl) (Yld.to (yld_call (f := 48) (args := #[.agg #[.int .i64 (rc lq q 0), .int .i64 (rc lq q 1), .int .i64 (rc lq q 2), .int .i64 (rc lq q 3), .int .i64 (rc lq q 4)]]) hF (by kernel_rfl) (fun _ => by kernel_rfl) (fun w hM => validPolice_w (rc lq q 0) (rc lq q 1) (rc lq q 2) (rc lq q 3) (rc lq q 4) w)) (congrArg Value.bool hz11)) fun a w hF hM => ?_)
        refine sB 8 [(48, .bool true), (49, .bool true), (50, undef), (51, undef), (52, undef), (53, undef), (54, undef), (55, .bool true)] hF (by kernel_rfl) fun a hF => ?_
        refine wpList_nil ?_
        refine hK25 _ _ ?_
        refine cT hF (by kernel_rfl) (by kernel_rfl) ?_
        refine wp_seq_k fun K26 hK26 => ?_
        refine wp_region_lit ?_
        refine sB 1 [(4, .bool false)] hF (by kernel_rfl) fun a hF => ?_
        refine wpList_nil ?_
        refine hK26 _ _ ?_
        refine wp_ret ?_
        refine hR0 _ _ ?_
        refine ret_of hF hM (.tmp rfl (.nil)) ?_
        exact ⟨ret_bool (li_p (k := q) (by omega) (fun z => by exact absurd z.1 (by show ¬ vp5 lq q = true; unfold vp5; rw [hz11]; decide))), hM.bel⟩
       ·skip
        refine wp_region_lit ?_
        refine wl (eL 46 4 0 (v := .agg #[.int .i64 (rc lq q 0), .int .i64 (rc lq q 1), .int .i64 (rc lq q 2), .int .i64 (rc lq q 3), .int .i64 (rc lq q 4)]) hF hM (by kernel_rfl) rfl rfl (by kernel_rfl) (by kernel_rfl) fun a w hF hM => ?_)
        refine wl (eM 47 (v := .bool true) hF hM (by kernel_rfl) (Yld.to (yld_call (f := 48) (args := #[.agg #[.int .i64 (rc lq q 0), .int .i64 (rc lq q 1), .int .i64 (rc lq q 2), .int .i64 (rc lq q 3), .int .i64 (rc lq q 4)]]) hF (by kernel_rfl) (fun _ => by kernel_rfl) (fun w hM => validPolice_w (rc lq q 0) (rc lq q 1) (rc lq q 2) (rc lq q 3) (rc lq q 4) w)) (congrArg Value.bool hz11)) fun a w hF hM => ?_)
        refine sB 4 [(48, .bool false), (49, .bool false), (50, .slice A2 lq.length cq_), (51, .func (.func 47) #[] #[.pointer (some ⟨bb2, 0, none⟩)])] hF (by kernel_rfl) fun a hF => ?_
        refine wl (eM 52 (v := .int .i64 (fnd (sameP (rc lq q 0) lq) lq.length)) hF hM (by kernel_rfl) (yld_call (f := 49) (args := #[.slice A2 lq.length cq_, .func (.func 47) #[] #[.pointer (some ⟨bb2, 0, none⟩)]]) hF (by kernel_rfl) (fun _ => by kernel_rfl) (fun w hM => find2_w (rc lq q 0) (rc lq q 1) (rc lq q 2) (rc lq q 3) (rc lq q 4) bb2 A2 lq _ w (hM.ok 2 _ rfl) hW2 (by omega) (hM.roRow (k := 4) rfl))) fun a w hF hM => ?_)
        refine sB 3 [(53, .int .i64 (q : Int)), (54, .bool (!decide (fnd (sameP (rc lq q 0) lq) lq.length = (q : Int)))), (55, .bool (!decide (fnd (sameP (rc lq q 0) lq) lq.length = (q : Int))))] hF (by kernel_rfl) fun a hF => ?_
        refine wpList_nil ?_
        refine hK25 _ _ ?_
        by_cases hz12 : fnd (sameP (rc lq q 0) lq) lq.length = (q : Int)
        ·skip
         replace hF := hF.c hF (i := 54) (v := .bool false) rfl (nT hz12)
         replace hF := hF.c hF (i := 55) (v := .bool false) rfl (nT hz12)
         refine cF hF (by kernel_rfl) (by kernel_rfl) ?_
         refine wp_skip ?_
         refine hK22 _ _ ?_
         refine wp_region_lit ?_
         refine wl (eP 56 (v0 := .int .i64 (IntKind.i64.wrap ((q : Int) + 1))) (v := .int .i64 ((q : Int) + 1)) hF (by kernel_rfl) (fun _ => by kernel_rfl) (wi (by omega)) fun a hF => ?_)
         refine sB 1 [(40, .int .i64 ((q : Int) + 1))] hF (by kernel_rfl) fun a hF => ?_
         refine wpList_nil ?_
         refine hK19 _ _ ⟨(q + 1), ⟨(((((Fr.nil hF).c hF (i := 39) rfl rfl).c hF (i := 38) rfl rfl).c hF (i := 1) rfl rfl).c hF (i := 40) rfl (vi (show ((q : Int) + 1 : Int) = ((q + 1) : Int) from by omega))), (hM.sub ((Sub.nil.c (k := 2) rfl rfl).c (k := 1) rfl rfl)), (show ((q + 1) : Int) ≤ (lq.length : Int) from by omega), (show ∀ j, j < (q + 1) → okP lq j from by exact all_next (by assumption) ⟨hz11, by assumption⟩)⟩, (show lq.length - (q + 1) < lq.length - q from by omega)⟩
        ·skip
         replace hF := hF.c hF (i := 54) (v := .bool true) rfl (nF hz12)
         replace hF := hF.c hF (i := 55) (v := .bool true) rfl (nF hz12)
         refine cT hF (by kernel_rfl) (by kernel_rfl) ?_
         refine wp_seq_k fun K27 hK27 => ?_
         refine wp_region_lit ?_
         refine sB 1 [(4, .bool false)] hF (by kernel_rfl) fun a hF => ?_
         refine wpList_nil ?_
         refine hK27 _ _ ?_
         refine wp_ret ?_
         refine hR0 _ _ ?_
         refine ret_of hF hM (.tmp rfl (.nil)) ?_
         exact ⟨ret_bool (li_p (k := q) (by omega) (fun z => by exact absurd z.2 (by assumption))), hM.bel⟩
      ·skip
       replace hF := hF.c hF (i := 41) (v := .bool false) rfl (bF hz10)
       refine cF hF (by kernel_rfl) (by kernel_rfl) ?_
       refine wp_exit ?_
       refine hK17 _ _ ?_
       refine wp_seq_k fun K28 hK28 => ?_
       refine wp_region_lit ?_
       refine sB 1 [(4, .bool true)] hF (by kernel_rfl) fun a hF => ?_
       refine wpList_nil ?_
       refine hK28 _ _ ?_
       refine wp_ret ?_
       refine hR0 _ _ ?_
       refine ret_of hF hM (.tmp rfl (.nil)) ?_
       exact ⟨ret_bool (li_yes (by omega) (by omega) (fun j hj => ‹∀ j, j < k → okA la j› j (by omega)) (fun j hj => ‹∀ j, j < q → okP lq j› j (by omega))), hM.bel⟩

end Go.Proofs.Ytogeficooemngaa
