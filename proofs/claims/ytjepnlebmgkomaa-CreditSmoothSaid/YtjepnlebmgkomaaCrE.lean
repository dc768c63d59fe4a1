/-
  The reference's slopes and traces.
-/
import Derived.Test.YtjepnlebmgkomaaCrD
import Derived.Test.YtjepnlebmgkomaaSharePlain
import Derived.Test.YtjepnlebmgkomaaDraftW
namespace Go.Proofs.Ytjepnlebmgkomaa
open Go.RowKit
set_option linter.unusedVariables false
set_option linter.unusedSimpArgs false

theorem of_div {p : Int} (h1 : 1 ≤ p) (h2 : p ≤ 1000) : 1 ≤ 1048575 / p ∧ 1048575 / p ≤ 1048575 := ⟨(Int.le_ediv_iff_mul_le (by omega)).2 (by omega), Int.ediv_le_self _ (by omega)⟩
def ofR (ra pe : Int) : Int := 1 + ra % (1048575 / (1 + pe % 1000))
def ofP (pe : Int) : Int := 1 + pe % 1000
theorem of_slope {ra pe : Int} (h : 0 ≤ ra) (h1 : 0 ≤ pe) : slopeE (ofR ra pe) (ofP pe) = 0 := by
  rw [slopeE_eq, if_pos]
  unfold ofR ofP
  have hp : 1 ≤ 1 + pe % 1000 ∧ 1 + pe % 1000 ≤ 1000 := by omega
  generalize 1 + pe % 1000 = p at hp
  have hq := of_div hp.1 hp.2
  have h2 := Int.emod_nonneg ra (b := 1048575 / p) (by omega)
  have h3 := Int.emod_lt_of_pos ra (b := 1048575 / p) (by omega)
  have h4 : 1048575 / p * p ≤ 1048575 := Int.ediv_mul_le _ (by omega)
  have h5 := Int.mul_le_mul_of_nonneg_right (show 1 + ra % (1048575 / p) ≤ 1048575 / p by omega) (show 0 ≤ p by omega)
  omega
theorem crOf_w (ra pe : Int) (w0 : World) (h : 0 ≤ ra ∧ ra < 4294967296 ∧ 0 ≤ pe ∧ pe < 65536) :
    Calls Try.prog 9 #[.int .u32 ra, .int .u16 pe] w0 (Ret w0 (.agg #[.int .i64 (ofR ra pe), .int .i64 (ofP pe)])) := by
  refine enterK 18 Try.func9 rfl rfl rfl ?_
  intro a hF Q0 hR0 hN0
  have hM := Mem.start w0
  refine wp_seq_k fun K1 hK1 => ?_
  refine wp_region_lit ?_
  refine wl (eN 4 1 (t := 23) (fun b => .pointer (some ⟨b, 0, none⟩)) #[.int .i64 0, .int .i64 0] hF hM (by kernel_rfl) (fun _ => by kernel_rfl) fun bb1 a w hF hM => ?_)
  refine wpList_nil ?_
  refine hK1 _ _ ?_
  refine wp_seq_k fun K2 hK2 => ?_
  refine wp_region_lit ?_
  refine sB 1 [(6, .int .u16 pe)] hF (by kernel_rfl) fun a hF => ?_
  refine wl (eM 7 (v := .int .u16 (pe % 1000)) hF hM (by kernel_rfl) (yld_rem pe 1000 hF rfl (by kernel_rfl) (by kernel_rfl) (by kernel_rfl) (by decide) (Int.tmod_eq_emod_of_nonneg (by omega))) fun a w hF hM => ?_)
  refine wl (eP 8 (v0 := .int .i64 (IntKind.i64.wrap (pe % 1000))) (v := .int .i64 (pe % 1000)) hF (by kernel_rfl) (fun _ => by kernel_rfl) (vi (IntWalk.i64_in _ (by omega))) fun a hF => ?_)
  refine wl (eP 9 (v0 := .int .i64 (IntKind.i64.wrap (1 + pe % 1000))) (v := .int .i64 (1 + pe % 1000)) hF (by kernel_rfl) (fun _ => by kernel_rfl) (wi (by omega)) fun a hF => ?_)
  refine sB 1 [(5, .int .i64 (1 + pe % 1000))] hF (by kernel_rfl) fun a hF => ?_
  refine wpList_nil ?_
  refine hK2 _ _ ?_
  refine wp_seq_k fun K3 hK3 => ?_
  have hq : 1 ≤ 1048575 / (1 + pe % 1000) ∧ 1048575 / (1 + pe % 1000) ≤ 1048575 := of_div (by omega) (by omega)
  refine wp_region_lit ?_
  refine sB 1 [(10, .int .u32 ra)] hF (by kernel_rfl) fun a hF => ?_
  refine wl (eP 11 (v0 := .int .i64 (IntKind.i64.wrap ra)) (v := .int .i64 ra) hF (by kernel_rfl) (fun _ => by kernel_rfl) (vi (IntWalk.i64_in _ (by omega))) fun a hF => ?_)
  refine sB 1 [(12, .int .i64 (1 + pe % 1000))] hF (by kernel_rfl) fun a hF => ?_
  refine wl (eM 13 (v := .int .i64 (1048575 / (1 + pe % 1000))) hF hM (by kernel_rfl) (yld_quo 1048575 (1 + pe % 1000) hF rfl (by kernel_rfl) (by kernel_rfl) (by kernel_rfl) (by omega) (qpos_i64 (by omega) (by omega) (by omega))) fun a w hF hM => ?_)
  have := ediv_le_self_of (p := 1048575) (q := 1 + pe % 1000) (by omega) (by omega)
  refine wl (eM 14 (v := .int .i64 (ra % (1048575 / (1 + pe % 1000)))) hF hM (by kernel_rfl) (yld_rem ra (1048575 / (1 + pe % 1000)) hF rfl (by kernel_rfl) (by kernel_rfl) (by kernel_rfl) (by omega) (Int.tmod_eq_emod_of_nonneg (by omega))) fun a w hF hM => ?_)
  have := emod_bd (p := ra) (q := 1048575 / (1 + pe % 1000)) (by omega) (by omega)
  refine wl (eP 15 (v0 := .int .i64 (IntKind.i64.wrap (1 + ra % (1048575 / (1 + pe % 1000))))) (v := .int .i64 (1 + ra % (1048575 / (1 + pe % 1000)))) hF (by kernel_rfl) (fun _ => by kernel_rfl) (wi (by omega)) fun a hF => ?_)
  refine sB 2 [(16, .int .i64 (1 + pe % 1000)), (17, .agg #[.int .i64 (1 + ra % (1048575 / (1 + pe % 1000))), .int .i64 (1 + pe % 1000)])] hF (by kernel_rfl) fun a hF => ?_
  refine wl (sStore (i := 1) (off := 0) (cs' := #[.int .i64 (1 + ra % (1048575 / (1 + pe % 1000))), .int .i64 (1 + pe % 1000)]) hF hM (by kernel_rfl) rfl rfl (by kernel_rfl) (by kernel_rfl) rfl (by kernel_rfl) fun w hM => ?_)
  refine wpList_nil ?_
  refine hK3 _ _ ?_
  refine wp_ret ?_
  refine hR0 _ _ ?_
  refine ret_of hF hM (.cell (i := 1) rfl rfl (v := .agg #[.int .i64 (1 + ra % (1048575 / (1 + pe % 1000))), .int .i64 (1 + pe % 1000)]) (by kernel_rfl) (.nil)) ?_
  exact ⟨rfl, hM.bel⟩

theorem crTrace_w (bu ra : Int) (Ga : Option Addr) (gaps : List Int) (cg : Nat) (Sa : Option Addr) (sizes : List Int) (cs : Nat) (w0 : World) (hGa : Ro w0 Ga (gaps.map (Value.int .u16))) (hSa : Ro w0 Sa (sizes.map (Value.int .u16))) (hg : All16 gaps) (hs : All16 sizes) (hmg : gaps.length ≤ 9223372036854775807) (hms : sizes.length ≤ 9223372036854775807) :
    Calls Try.prog 11 #[.agg #[.int .u32 bu, .int .u32 ra, .slice Ga gaps.length cg, .slice Sa sizes.length cs]] w0 (RetOwn w0 (fun v => v) 57 2 (crTr gaps sizes).length (flat2 (crTr gaps sizes))) := by
  refine enterK 25 Try.func11 rfl rfl rfl ?_
  intro a hF Q0 hR0 hN0
  have hM := Mem.start w0
  replace hM := hM.addOld 1 hGa (Nat.le_refl _)
  replace hM := hM.addOld 2 hSa (Nat.le_refl _)
  refine wp_seq_k fun K1 hK1 => ?_
  refine wp_region_lit ?_
  refine wl (eN 1 3 (t := 28) (fun b => .pointer (some ⟨b, 0, none⟩)) #[.int .u32 bu, .int .u32 ra, .slice Ga gaps.length cg, .slice Sa sizes.length cs] hF hM (by kernel_rfl) (fun _ => by kernel_rfl) fun bb1 a w hF hM => ?_)
  refine sB 1 [(2, .slice none 0 0)] hF (by kernel_rfl) fun a hF => ?_
  refine wpList_nil ?_
  refine hK1 _ _ ?_
  refine wp_seq_k fun K2 hK2 => ?_
  refine wp_region_lit ?_
  refine wl (eL 5 3 0 (v := .agg #[.int .u32 bu, .int .u32 ra, .slice Ga gaps.length cg, .slice Sa sizes.length cs]) hF hM (by kernel_rfl) rfl rfl (by kernel_rfl) (by kernel_rfl) fun a w hF hM => ?_)
  obtain ⟨ltr, e_ltr⟩ : ∃ x : List (Int × Int), x = drTrace gaps sizes := ⟨_, rfl⟩
  have tr_ltr : trE ltr = 0 := by rw [e_ltr]; exact dr_trE hg hs
  have le_ltr : ltr.length ≤ 30 := by rw [e_ltr]; exact dr_le _ _
  refine wl (sOwn 4 (f := 10) (args := #[.agg #[.int .u32 bu, .int .u32 ra, .slice Ga gaps.length cg, .slice Sa sizes.length cs]]) (mk := fun v => v) (e := 57) (size := 2) (m := ltr.length) (xs := (flat2 ltr)) hF hM (by kernel_rfl) rfl (by decide) (by kernel_rfl) (fun _ => by kernel_rfl) (by rw [e_ltr]; exact draftTrace_w bu ra Ga gaps cg Sa sizes cs w (hM.ok 1 _ rfl) (hM.ok 2 _ rfl) hg hs (by omega) (by omega)) fun AA2 cc2 a w hF hM => ?_)
  refine sB 1 [(3, .slice AA2 ltr.length cc2)] hF (by kernel_rfl) fun a hF => ?_
  refine wpList_nil ?_
  refine hK2 _ _ ?_
  refine wp_seq_k fun K3 hK3 => ?_
  refine wp_seq_k fun K4 hK4 => ?_
  refine wp_region_lit ?_
  refine sB 1 [(4, .int .i64 0)] hF (by kernel_rfl) fun a hF => ?_
  refine wpList_nil ?_
  refine hK4 _ _ ?_
  refine wp_block ?_
  refine wp_loop_k (G := Nat × List (Int × Int)) (fun gg a w => Fr 25 [(4, some (.int .i64 (gg.1 : Int))), (2, some (.slice none 0 0)), (3, some (.slice AA2 ltr.length cc2))] a ∧ Mem w0.heap.size w0 [(1, some (.ro Ga (gaps.map (Value.int .u16)))), (2, some (.ro Sa (sizes.map (Value.int .u16)))), (4, some (.own (.slice AA2 ltr.length cc2) 57 2 ltr.length (flat2 gg.2)))] w ∧ ((gg.1 : Int) ≤ (ltr.length : Int)) ∧ ((gg.2.length : Int) = (ltr.length : Int)) ∧ (gg.2 = capK ltr gg.1)) (fun gg => ltr.length - gg.1) (0, ltr) ?_ ?_
  · refine ⟨((((Fr.nil hF).c hF (i := 3) rfl rfl).c hF (i := 2) rfl rfl).c hF (i := 4) rfl (vi (show (0 : Int) = (0 : Int) from by omega))), (hM.sub (((Sub.nil.c (k := 4) rfl rfl).c (k := 2) rfl rfl).c (k := 1) rfl rfl)), (show (0 : Int) ≤ (ltr.length : Int) from by omega), (show (ltr.length : Int) = (ltr.length : Int) from by rfl), (show ltr = capK ltr 0 from by exact (capK_zero ltr).symm)⟩
  · intro gg a w hI
    intro K5 hK5
    obtain ⟨k, mm⟩ := gg
    try dsimp only at hI hK5
    obtain ⟨hF, hM, hz1, hz2, hz3⟩ := hI
    have hmm : mm = capK ltr k := by assumption
    refine wp_seq_k fun K6 hK6 => ?_
    refine wp_seq_k fun K7 hK7 => ?_
    refine wp_region_lit ?_
    refine sB 4 [(7, .int .i64 (k : Int)), (8, .slice AA2 ltr.length cc2), (9, .int .i64 (ltr.length : Int)), (10, .bool (decide ((k : Int) < (ltr.length : Int))))] hF (by kernel_rfl) fun a hF => ?_
    refine wpList_nil ?_
    refine hK7 _ _ ?_
    by_cases hz4 : (k : Int) < (ltr.length : Int)
    · skip
      replace hF := hF.c hF (i := 10) (v := .bool true) rfl (bT hz4)
      refine cT hF (by kernel_rfl) (by kernel_rfl) ?_
      refine wp_skip ?_
      refine hK6 _ _ ?_
      refine wp_seq_k fun K8 hK8 => ?_
      refine wp_block ?_
      have hpk : pr mm k = pr ltr k := by rw [hmm]; exact capK_at (by omega)
      have hqd := dr_pr (k := k) hg hs (by rw [← e_ltr]; omega)
      rw [← e_ltr, ← hpk] at hqd
      refine wp_region_lit ?_
      refine sB 4 [(13, .slice AA2 ltr.length cc2), (14, .int .i64 (k : Int)), (15, .slice AA2 ltr.length cc2), (16, .int .i64 (k : Int))] hF (by kernel_rfl) fun a hF => ?_
      refine wl (eM 17 (v := .pointer (some (ea AA2 (k * 2)))) hF hM (by kernel_rfl) (yld_ix (kd := .i64) (e := 57) (len := ltr.length) (cap := cc2) (i := (k : Int)) (size := 2) (A := AA2) hF rfl (by kernel_rfl) (by kernel_rfl) (by kernel_rfl) (by kernel_rfl) (by kernel_rfl) (roO 4 rfl) (by omega) (by omega) (by rw [flat2_length]; omega)) fun a w hF hM => ?_)
      refine sB 1 [(18, .pointer (some (ea AA2 (k * 2 + 1))))] hF (by kernel_rfl) fun a hF => ?_
      refine wl (eM 19 (v := .int .i64 (pr mm k).2) hF hM (by kernel_rfl) (yld_ro1 (A := AA2) (j := k * 2 + 1) hF rfl (by kernel_rfl) (by kernel_rfl) (roO 4 rfl) (by kernel_rfl) (pr_snd (k := k) (by omega) (by omega))) fun a w hF hM => ?_)
      refine wl (eM 20 (v := .int .i64 ((pr mm k).2 % 1542)) hF hM (by kernel_rfl) (yld_rem (pr mm k).2 1542 hF rfl (by kernel_rfl) (by kernel_rfl) (by kernel_rfl) (by decide) (Int.tmod_eq_emod_of_nonneg (by omega))) fun a w hF hM => ?_)
      refine wl (eP 21 (v0 := .int .i64 (IntKind.i64.wrap (1 + (pr mm k).2 % 1542))) (v := .int .i64 (1 + (pr mm k).2 % 1542)) hF (by kernel_rfl) (fun _ => by kernel_rfl) (wi (by omega)) fun a hF => ?_)
      refine wl (eM 22 (v := .pointer (some (ea AA2 (k * 2)))) hF hM (by kernel_rfl) (yld_ix (kd := .i64) (e := 57) (len := ltr.length) (cap := cc2) (i := (k : Int)) (size := 2) (A := AA2) hF rfl (by kernel_rfl) (by kernel_rfl) (by kernel_rfl) (by kernel_rfl) (by kernel_rfl) (roO 4 rfl) (by omega) (by omega) (by rw [flat2_length]; omega)) fun a w hF hM => ?_)
      refine sB 1 [(23, .pointer (some (ea AA2 (k * 2 + 1))))] hF (by kernel_rfl) fun a hF => ?_
      refine wl (sStoreO 4 (j := k * 2 + 1) (A := AA2) (flat2 ((mm).set k ((pr mm k).1, 1 + (pr mm k).2 % 1542))) hF hM (by kernel_rfl) rfl rfl (by kernel_rfl) (by kernel_rfl) rfl (by kernel_rfl) rfl rfl (by rw [flat2_length]; omega) (flat2_set2 (k := k) _ (by omega) (by omega)) fun w hM => ?_)
      refine wpList_nil ?_
      refine hK8 _ _ ?_
      refine wp_region_lit ?_
      refine sB 1 [(11, .int .i64 (k : Int))] hF (by kernel_rfl) fun a hF => ?_
      refine wl (eP 12 (v0 := .int .i64 (IntKind.i64.wrap ((k : Int) + 1))) (v := .int .i64 ((k : Int) + 1)) hF (by kernel_rfl) (fun _ => by kernel_rfl) (wi (by omega)) fun a hF => ?_)
      refine sB 1 [(4, .int .i64 ((k : Int) + 1))] hF (by kernel_rfl) fun a hF => ?_
      refine wpList_nil ?_
      refine hK5 _ _ ⟨(k + 1, (mm).set k ((pr mm k).1, 1 + (pr mm k).2 % 1542)), ⟨((((Fr.nil hF).c hF (i := 3) rfl rfl).c hF (i := 2) rfl rfl).c hF (i := 4) rfl (vi (show ((k : Int) + 1 : Int) = ((k + 1) : Int) from by omega))), (hM.sub (((Sub.nil.c (k := 4) rfl rfl).c (k := 2) rfl rfl).c (k := 1) rfl rfl)), (show ((k + 1) : Int) ≤ (ltr.length : Int) from by omega), (show (((mm).set k ((pr mm k).1, 1 + (pr mm k).2 % 1542)).length : Int) = (ltr.length : Int) from by simp; omega), (show ((mm).set k ((pr mm k).1, 1 + (pr mm k).2 % 1542)) = capK ltr (k + 1) from by rw [hmm] at hpk ⊢; rw [hpk, ← capK_succ (by omega)])⟩, (show ltr.length - (k + 1) < ltr.length - k from by omega)⟩
    · skip
      replace hF := hF.c hF (i := 10) (v := .bool false) rfl (bF hz4)
      refine cF hF (by kernel_rfl) (by kernel_rfl) ?_
      refine wp_exit ?_
      refine hK3 _ _ ?_
      refine wp_seq_k fun K9 hK9 => ?_
      refine wp_region_lit ?_
      refine sB 2 [(24, .slice AA2 ltr.length cc2), (2, .slice AA2 ltr.length cc2)] hF (by kernel_rfl) fun a hF => ?_
      refine wpList_nil ?_
      refine hK9 _ _ ?_
      refine wp_ret ?_
      refine hR0 _ _ ?_
      refine ret_of hF hM (.tmp rfl (.nil)) ?_
      have hall : mm = crTr gaps sizes := by rw [hmm, capK_all (by omega), e_ltr]; rfl
      have hln : (crTr gaps sizes).length = ltr.length := by rw [← hall]; omega
      have ho := hM.ok 4 _ rfl
      rw [hall] at ho
      exact ⟨_, _, by rw [hln]; rfl, by rw [hln]; exact ho, hM.bel⟩

end Go.Proofs.Ytjepnlebmgkomaa
