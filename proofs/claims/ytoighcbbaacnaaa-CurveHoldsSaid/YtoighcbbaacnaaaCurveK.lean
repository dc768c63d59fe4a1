/-
  Traces that conform to two buckets.
-/
import Derived.Test.YtoighcbbaacnaaaCurveJ
import Derived.Test.YtoighcbbaacnaaaCfTrW
namespace Go.Proofs.Ytoighcbbaacnaaa
open Go.RowKit
set_option linter.unusedVariables false
set_option linter.unusedSimpArgs false

set_option maxRecDepth 100000 in
set_option maxHeartbeats 4000000 in
theorem lconforming_w (bu ra : Int) (Ga : Option Addr) (gaps : List Int) (cg : Nat) (Sa : Option Addr) (sizes : List Int) (cs : Nat) (ob oq : Int) (w0 : World) (hGa : Ro w0 Ga (gaps.map (Value.int .u16))) (hSa : Ro w0 Sa (sizes.map (Value.int .u16))) (hg : All16 gaps) (hs : All16 sizes) (hmg : gaps.length ≤ 9223372036854775807) (hms : sizes.length ≤ 9223372036854775807) (h : 0 ≤ bu ∧ bu < 4294967296 ∧ 0 ≤ ra ∧ ra < 4294967296) (hob : bkE ob oq = 0) :
    Calls Try.prog 32 #[.agg #[.int .u32 bu, .int .u32 ra, .slice Ga gaps.length cg, .slice Sa sizes.length cs], .agg #[.int .i64 ob, .int .i64 oq]] w0 (RetOwn w0 (fun v => v) 64 2 (cfTr ob oq (cfDr bu ra gaps sizes)).length (flat2 (cfTr ob oq (cfDr bu ra gaps sizes)))) := by
  refine enterK 41 Try.func32 rfl rfl rfl ?_
  intro a hF Q0 hR0 hN0
  have hM := Mem.start w0
  replace hM := hM.addOld 1 hGa (Nat.le_refl _)
  replace hM := hM.addOld 2 hSa (Nat.le_refl _)
  refine wp_seq_k fun K1 hK1 => ?_
  refine wp_region_lit ?_
  refine wl (eN 2 3 (t := 42) (fun b => .pointer (some ⟨b, 0, none⟩)) #[.int .u32 bu, .int .u32 ra, .slice Ga gaps.length cg, .slice Sa sizes.length cs] hF hM (by kernel_rfl) (fun _ => by kernel_rfl) fun bb1 a w hF hM => ?_)
  refine wl (eN 3 4 (t := 39) (fun b => .pointer (some ⟨b, 0, none⟩)) #[.int .i64 ob, .int .i64 oq] hF hM (by kernel_rfl) (fun _ => by kernel_rfl) fun bb2 a w hF hM => ?_)
  refine sB 1 [(4, .slice none 0 0)] hF (by kernel_rfl) fun a hF => ?_
  refine wpList_nil ?_
  refine hK1 _ _ ?_
  refine wp_seq_k fun K2 hK2 => ?_
  refine wp_region_lit ?_
  refine sB 1 [(5, .slice none 0 0)] hF (by kernel_rfl) fun a hF => ?_
  refine wpList_nil ?_
  refine hK2 _ _ ?_
  refine wp_seq_k fun K3 hK3 => ?_
  refine wp_region_lit ?_
  refine wl (eL 11 3 0 (v := .agg #[.int .u32 bu, .int .u32 ra, .slice Ga gaps.length cg, .slice Sa sizes.length cs]) hF hM (by kernel_rfl) rfl rfl (by kernel_rfl) (by kernel_rfl) fun a w hF hM => ?_)
  obtain ⟨lcf, e_lcf⟩ : ∃ x : List (Int × Int), x = cfDr bu ra gaps sizes := ⟨_, rfl⟩
  have cf_lcf : cfB (1 + bu % 1048576) (1 + ra % 2097152) lcf = true := by rw [e_lcf]; exact cfTr_cf (by unfold bkE; omega) (dr_trE hg hs)
  have tr_lcf : trE lcf = 0 := ckE_tr (cf_iff.1 cf_lcf).1
  have le_lcf : lcf.length ≤ 30 := by rw [e_lcf]; exact Nat.le_trans (cfTr_le (by unfold bkE; omega) (dr_trE hg hs)) (dr_le _ _)
  have pr_lcf : ∀ k, k < lcf.length → 0 ≤ (pr lcf k).1 ∧ (pr lcf k).1 ≤ 1966050 ∧ 1 ≤ (pr lcf k).2 ∧ (pr lcf k).2 ≤ 65536 := by rw [e_lcf]; exact fun k hk => cfTr_pr (p := fun x => 0 ≤ x.1 ∧ x.1 ≤ 1966050 ∧ 1 ≤ x.2 ∧ x.2 ≤ 65536) (by unfold bkE; omega) (dr_trE hg hs) (fun j hj => dr_pr hg hs hj) hk
  refine wl (sOwn 5 (f := 30) (args := #[.agg #[.int .u32 bu, .int .u32 ra, .slice Ga gaps.length cg, .slice Sa sizes.length cs]]) (mk := fun v => v) (e := 64) (size := 2) (m := lcf.length) (xs := (flat2 lcf)) hF hM (by kernel_rfl) rfl (by decide) (by kernel_rfl) (fun _ => by kernel_rfl) (by rw [e_lcf]; exact conforming_w bu ra Ga gaps cg Sa sizes cs w (hM.ok 1 _ rfl) (hM.ok 2 _ rfl) hg hs (by omega) (by omega) (by omega)) fun AA3 cc3 a w hF hM => ?_)
  refine sB 1 [(6, .slice AA3 lcf.length cc3)] hF (by kernel_rfl) fun a hF => ?_
  refine wpList_nil ?_
  refine hK3 _ _ ?_
  refine wp_seq_k fun K4 hK4 => ?_
  refine wp_seq_k fun K5 hK5 => ?_
  refine wp_region_lit ?_
  refine sB 1 [(7, .int .i64 0)] hF (by kernel_rfl) fun a hF => ?_
  refine wpList_nil ?_
  refine hK5 _ _ ?_
  refine wp_block ?_
  replace hM := hM.addNil 6 64 2
  refine wp_loop_k (G := Nat × List (Int × Int) × Nat × Option Addr × Nat) (fun gg a w => Fr 41 [(5, some (.slice gg.2.2.2.1 gg.2.2.1 gg.2.2.2.2)), (7, some (.int .i64 (gg.1 : Int))), (3, some (.pointer (some ⟨bb2, 0, none⟩))), (4, some (.slice none 0 0)), (6, some (.slice AA3 lcf.length cc3))] a ∧ Mem w0.heap.size w0 [(1, some (.ro Ga (gaps.map (Value.int .u16)))), (2, some (.ro Sa (sizes.map (Value.int .u16)))), (4, some (.row bb2 39 #[.int .i64 ob, .int .i64 oq])), (5, some (.own (.slice AA3 lcf.length cc3) 64 2 lcf.length (flat2 lcf))), (6, some (.own (.slice gg.2.2.2.1 gg.2.2.1 gg.2.2.2.2) 64 2 gg.2.2.1 (flat2 gg.2.1)))] w ∧ ((gg.1 : Int) ≤ (lcf.length : Int)) ∧ ((gg.2.1.length : Int) = (gg.2.2.1 : Int)) ∧ (CfAt ob oq lcf gg.1 gg.2.1)) (fun gg => lcf.length - gg.1) (0, [], 0, none, 0) ?_ ?_
  · refine ⟨((((((Fr.nil hF).c hF (i := 6) rfl rfl).c hF (i := 4) rfl rfl).c hF (i := 3) rfl rfl).c hF (i := 7) rfl (vi (show (0 : Int) = (0 : Int) from by omega))).c hF (i := 5) rfl rfl), (hM.sub (((((Sub.nil.c (k := 6) rfl rfl).c (k := 5) rfl rfl).c (k := 4) rfl rfl).c (k := 2) rfl rfl).c (k := 1) rfl rfl)), (show (0 : Int) ≤ (lcf.length : Int) from by omega), (show (([]).length : Int) = (0 : Int) from by rfl), (show CfAt ob oq lcf 0 ([]) from by exact CfAt.zero hob)⟩
  · intro gg a w hI
    intro K6 hK6
    obtain ⟨k, oo, on, G1, c1⟩ := gg
    try dsimp only at hI hK6
    obtain ⟨hF, hM, hz1, hz2, hz3⟩ := hI
    have hCf : CfAt ob oq lcf k oo := by assumption
    have hCl := hCf.len
    refine wp_seq_k fun K7 hK7 => ?_
    refine wp_seq_k fun K8 hK8 => ?_
    refine wp_region_lit ?_
    refine sB 4 [(13, .int .i64 (k : Int)), (14, .slice AA3 lcf.length cc3), (15, .int .i64 (lcf.length : Int)), (16, .bool (decide ((k : Int) < (lcf.length : Int))))] hF (by kernel_rfl) fun a hF => ?_
    refine wpList_nil ?_
    refine hK8 _ _ ?_
    by_cases hz4 : (k : Int) < (lcf.length : Int)
    · skip
      replace hF := hF.c hF (i := 16) (v := .bool true) rfl (bT hz4)
      refine cT hF (by kernel_rfl) (by kernel_rfl) ?_
      refine wp_skip ?_
      refine hK7 _ _ ?_
      refine wp_seq_k fun K9 hK9 => ?_
      refine wp_block ?_
      refine wp_seq_k fun K10 hK10 => ?_
      refine rF (by kernel_rfl) (by kernel_rfl) (fun S a w => ∃ bb4 : Nat, ∃ AA5 : Option Addr, ∃ cc5 : Nat, ∃ bb6 : Nat, ∃ AA7 : Option Addr, ∃ cc7 : Nat, Fr 41 [(3, some (.pointer (some ⟨bb2, 0, none⟩))), (4, some (.slice none 0 0)), (5, some (.slice G1 on c1)), (6, some (.slice AA3 lcf.length cc3)), (7, some (.int .i64 (k : Int))), (8, (cond (S.getD 9 false) (some (.slice AA7 (on + 1) cc7)) none)), (19, (cond (S.getD 0 false) (some (.slice (some ⟨bb4, 0, none⟩) 0 0)) none)), (20, (cond (S.getD 1 false) (some (.slice G1 on c1)) none)), (21, (cond (S.getD 2 false) (some (.slice AA5 on cc5)) none)), (22, (cond (S.getD 3 false) (some (.slice AA3 lcf.length cc3)) none)), (23, (cond (S.getD 4 false) (some (.int .i64 (k : Int))) none)), (24, (cond (S.getD 5 false) (some (.pointer (some (ea AA3 (k * 2))))) none)), (25, (cond (S.getD 6 false) (some (.agg #[.int .i64 (pr lcf k).1, .int .i64 (pr lcf k).2])) none)), (26, (cond (S.getD 7 false) (some (.slice (some ⟨bb6, 0, none⟩) 1 1)) none)), (27, (cond (S.getD 8 false) (some (.slice AA7 (on + 1) cc7)) none))] a ∧ Mem w0.heap.size w0 [(1, some (.ro Ga (gaps.map (Value.int .u16)))), (2, some (.ro Sa (sizes.map (Value.int .u16)))), (4, some (.row bb2 39 #[.int .i64 ob, .int .i64 oq])), (5, some (.own (.slice AA3 lcf.length cc3) 64 2 lcf.length (flat2 lcf))), (6, some (.own (.slice G1 on c1) 64 2 on (flat2 oo))), (7, (cond (S.getD 8 false) (some (.own (.slice AA7 (on + 1) cc7) 64 2 (on + 1) (flat2 (oo ++ [((pr lcf k).1, (pr lcf k).2)])))) (cond (S.getD 2 false) (some (.own (.slice AA5 on cc5) 64 2 on (flat2 oo))) (cond (S.getD 0 false) (some (.row bb4 64 #[])) none)))), (8, (cond (S.getD 7 false) (some (.row bb6 64 #[.int .i64 (pr lcf k).1, .int .i64 (pr lcf k).2])) none))] w) ?_ ?_ ?_
      · exact ⟨0, none, 0, 0, none, 0, ((((((((((((((((Fr.nil hF).co hF (i := 27) (by kernel_rfl)).co hF (i := 26) (by kernel_rfl)).co hF (i := 25) (by kernel_rfl)).co hF (i := 24) (by kernel_rfl)).co hF (i := 23) (by kernel_rfl)).co hF (i := 22) (by kernel_rfl)).co hF (i := 21) (by kernel_rfl)).co hF (i := 20) (by kernel_rfl)).co hF (i := 19) (by kernel_rfl)).co hF (i := 8) (by kernel_rfl)).co hF (i := 7) (by kernel_rfl)).co hF (i := 6) (by kernel_rfl)).co hF (i := 5) (by kernel_rfl)).co hF (i := 4) (by kernel_rfl)).co hF (i := 3) (by kernel_rfl)), hM.drew.sub (((((((Sub.nil.co (k := 8) (by kernel_rfl)).co (k := 7) (by kernel_rfl)).co (k := 6) (by kernel_rfl)).co (k := 5) (by kernel_rfl)).co (k := 4) (by kernel_rfl)).co (k := 2) (by kernel_rfl)).co (k := 1) (by kernel_rfl))⟩
      · refine stC ?_ (stC ?_ (stC ?_ (stC ?_ (stC ?_ (stC ?_ (stC ?_ (stC ?_ (stC ?_ (stC ?_ (trivial))))))))))
        · intro s0 s1 s2 s3 s4 s5 s6 s7 s8 s9 hc hi hp a w hS
          obtain rfl : s0 = false := hi
          obtain rfl : s2 = false := hc.f 2 0 (by kernel_rfl) rfl
          obtain rfl : s8 = false := hc.f 8 2 (by kernel_rfl) rfl
          obtain ⟨bb4, AA5, cc5, bb6, AA7, cc7, hF, hM⟩ := hS
          refine eN 19 7 (t := 64) (fun b => .slice (some ⟨b, 0, none⟩) 0 0) #[] hF hM (by kernel_rfl) (fun _ => by kernel_rfl) fun bb4 a w hF hM => ?_
          exact ⟨bb4, AA5, cc5, bb6, AA7, cc7, ((hF.repl 6 (by kernel_rfl)).cast (by kernel_rfl)), ((hM.repl 5 (by kernel_rfl)).cast (by kernel_rfl))⟩
        · intro s0 s1 s2 s3 s4 s5 s6 s7 s8 s9 hc hi hp a w hS
          obtain rfl : s1 = false := hi
          obtain ⟨bb4, AA5, cc5, bb6, AA7, cc7, hF, hM⟩ := hS
          refine eP 20 (v0 := .slice G1 on c1) (v := .slice G1 on c1) hF (by kernel_rfl) (fun _ => by kernel_rfl) rfl fun a hF => ?_
          exact ⟨bb4, AA5, cc5, bb6, AA7, cc7, ((hF.repl 7 (by kernel_rfl)).cast (by kernel_rfl)), (hM.cast (by kernel_rfl))⟩
        · intro s0 s1 s2 s3 s4 s5 s6 s7 s8 s9 hc hi hp a w hS
          obtain rfl : s2 = false := hi
          obtain rfl : s1 = true := hp 1 (by kernel_rfl)
          obtain rfl : s0 = true := hp 0 (by kernel_rfl)
          obtain rfl : s8 = false := hc.f 8 2 (by kernel_rfl) rfl
          obtain ⟨bb4, AA5, cc5, bb6, AA7, cc7, hF, hM⟩ := hS
          refine sAppR0 21 7 (e := 64) (size := 2) (bytes := 16) (z := .agg #[.int .i64 0, .int .i64 0]) (m := on) (c := c1) (news := (flat2 oo)) (flat2 oo) hF hM (by kernel_rfl) rfl (by kernel_rfl) (by kernel_rfl) (by kernel_rfl) rfl rfl rfl (by first | exact flat2_length _ | (rw [flat2_length]; omega)) (roO 6 rfl) (flat2_one _) (by omega) (by decide) rfl (own_nil hM (k := 6) rfl) fun AA5 cc5 a w hF hM => ?_
          exact ⟨bb4, AA5, cc5, bb6, AA7, cc7, ((hF.repl 8 (by kernel_rfl)).cast (by kernel_rfl)), ((hM.repl 5 (by kernel_rfl)).cast (by kernel_rfl))⟩
        · intro s0 s1 s2 s3 s4 s5 s6 s7 s8 s9 hc hi hp a w hS
          obtain rfl : s3 = false := hi
          obtain ⟨bb4, AA5, cc5, bb6, AA7, cc7, hF, hM⟩ := hS
          refine eP 22 (v0 := .slice AA3 lcf.length cc3) (v := .slice AA3 lcf.length cc3) hF (by kernel_rfl) (fun _ => by kernel_rfl) rfl fun a hF => ?_
          exact ⟨bb4, AA5, cc5, bb6, AA7, cc7, ((hF.repl 9 (by kernel_rfl)).cast (by kernel_rfl)), (hM.cast (by kernel_rfl))⟩
        · intro s0 s1 s2 s3 s4 s5 s6 s7 s8 s9 hc hi hp a w hS
          obtain rfl : s4 = false := hi
          obtain ⟨bb4, AA5, cc5, bb6, AA7, cc7, hF, hM⟩ := hS
          refine eP 23 (v0 := .int .i64 (k : Int)) (v := .int .i64 (k : Int)) hF (by kernel_rfl) (fun _ => by kernel_rfl) rfl fun a hF => ?_
          exact ⟨bb4, AA5, cc5, bb6, AA7, cc7, ((hF.repl 10 (by kernel_rfl)).cast (by kernel_rfl)), (hM.cast (by kernel_rfl))⟩
        · intro s0 s1 s2 s3 s4 s5 s6 s7 s8 s9 hc hi hp a w hS
          obtain rfl : s5 = false := hi
          obtain rfl : s4 = true := hp 4 (by kernel_rfl)
          obtain rfl : s3 = true := hp 3 (by kernel_rfl)
          obtain ⟨bb4, AA5, cc5, bb6, AA7, cc7, hF, hM⟩ := hS
          refine eM 24 (v := .pointer (some (ea AA3 (k * 2)))) hF hM (by kernel_rfl) (yld_ix (kd := .i64) (e := 64) (len := lcf.length) (cap := cc3) (i := (k : Int)) (size := 2) (A := AA3) hF rfl (by kernel_rfl) (by kernel_rfl) (by kernel_rfl) (by kernel_rfl) (by kernel_rfl) (roO 5 rfl) (by omega) (by omega) (by rw [flat2_length]; omega)) fun a w hF hM => ?_
          exact ⟨bb4, AA5, cc5, bb6, AA7, cc7, ((hF.repl 11 (by kernel_rfl)).cast (by kernel_rfl)), (hM.cast (by kernel_rfl))⟩
        · intro s0 s1 s2 s3 s4 s5 s6 s7 s8 s9 hc hi hp a w hS
          obtain rfl : s6 = false := hi
          obtain rfl : s5 = true := hp 5 (by kernel_rfl)
          obtain ⟨bb4, AA5, cc5, bb6, AA7, cc7, hF, hM⟩ := hS
          refine eM 25 (v := .agg #[.int .i64 (pr lcf k).1, .int .i64 (pr lcf k).2]) hF hM (by kernel_rfl) (yld_roM (A := AA3) (j := k * 2) (us := [.int .i64 (pr lcf k).1, .int .i64 (pr lcf k).2]) hF rfl (by kernel_rfl) (by kernel_rfl) (roO 5 rfl) (by kernel_rfl) rfl (pr_both (k := k) (by omega) (by omega))) fun a w hF hM => ?_
          exact ⟨bb4, AA5, cc5, bb6, AA7, cc7, ((hF.repl 12 (by kernel_rfl)).cast (by kernel_rfl)), (hM.cast (by kernel_rfl))⟩
        · intro s0 s1 s2 s3 s4 s5 s6 s7 s8 s9 hc hi hp a w hS
          obtain rfl : s7 = false := hi
          obtain rfl : s6 = true := hp 6 (by kernel_rfl)
          obtain ⟨bb4, AA5, cc5, bb6, AA7, cc7, hF, hM⟩ := hS
          refine eN 26 8 (t := 64) (fun b => .slice (some ⟨b, 0, none⟩) 1 1) #[.int .i64 (pr lcf k).1, .int .i64 (pr lcf k).2] hF hM (by kernel_rfl) (fun _ => by kernel_rfl) fun bb6 a w hF hM => ?_
          exact ⟨bb4, AA5, cc5, bb6, AA7, cc7, ((hF.repl 13 (by kernel_rfl)).cast (by kernel_rfl)), ((hM.repl 6 (by kernel_rfl)).cast (by kernel_rfl))⟩
        · intro s0 s1 s2 s3 s4 s5 s6 s7 s8 s9 hc hi hp a w hS
          obtain rfl : s8 = false := hi
          obtain rfl : s7 = true := hp 7 (by kernel_rfl)
          obtain rfl : s2 = true := hp 2 (by kernel_rfl)
          obtain rfl : s0 = true := hc 2 0 (by kernel_rfl) rfl
          obtain rfl : s9 = false := hc.f 9 8 (by kernel_rfl) rfl
          obtain ⟨bb4, AA5, cc5, bb6, AA7, cc7, hF, hM⟩ := hS
          refine sApp 27 7 (e := 64) (size := 2) (bytes := 16) (z := .agg #[.int .i64 0, .int .i64 0]) (m := 1) (c := 1) (l := on) (cap := cc5) (A := AA5) (news := [.int .i64 (pr lcf k).1, .int .i64 (pr lcf k).2]) (flat2 (oo ++ [((pr lcf k).1, (pr lcf k).2)])) hF hM (by kernel_rfl) rfl (by kernel_rfl) (by kernel_rfl) (by kernel_rfl) rfl rfl rfl rfl (roR 8 rfl) (by simp [Value.oneCell']) (by omega) (by decide) (flat2_snoc' _ _ _) fun AA7 cc7 a w hF hM => ?_
          exact ⟨bb4, AA5, cc5, bb6, AA7, cc7, ((hF.repl 14 (by kernel_rfl)).cast (by kernel_rfl)), ((hM.repl 5 (by kernel_rfl)).cast (by kernel_rfl))⟩
        · intro s0 s1 s2 s3 s4 s5 s6 s7 s8 s9 hc hi hp a w hS
          obtain rfl : s9 = false := hi
          obtain rfl : s8 = true := hp 8 (by kernel_rfl)
          obtain rfl : s2 = true := hp 2 (by kernel_rfl)
          obtain rfl : s0 = true := hp 0 (by kernel_rfl)
          obtain ⟨bb4, AA5, cc5, bb6, AA7, cc7, hF, hM⟩ := hS
          refine eP 8 (v0 := .slice AA7 (on + 1) cc7) (v := .slice AA7 (on + 1) cc7) hF (by kernel_rfl) (fun _ => by kernel_rfl) rfl fun a hF => ?_
          exact ⟨bb4, AA5, cc5, bb6, AA7, cc7, ((hF.repl 5 (by kernel_rfl)).cast (by kernel_rfl)), (hM.cast (by kernel_rfl))⟩
      · intro a w hS
        obtain ⟨bb4, AA5, cc5, bb6, AA7, cc7, hF, hM⟩ := hS
        replace hF : Fr 41 [(3, some (.pointer (some ⟨bb2, 0, none⟩))), (4, some (.slice none 0 0)), (5, some (.slice G1 on c1)), (6, some (.slice AA3 lcf.length cc3)), (7, some (.int .i64 (k : Int))), (8, some (.slice AA7 (on + 1) cc7)), (19, some (.slice (some ⟨bb4, 0, none⟩) 0 0)), (20, some (.slice G1 on c1)), (21, some (.slice AA5 on cc5)), (22, some (.slice AA3 lcf.length cc3)), (23, some (.int .i64 (k : Int))), (24, some (.pointer (some (ea AA3 (k * 2))))), (25, some (.agg #[.int .i64 (pr lcf k).1, .int .i64 (pr lcf k).2])), (26, some (.slice (some ⟨bb6, 0, none⟩) 1 1)), (27, some (.slice AA7 (on + 1) cc7))] a := hF.cast (by kernel_rfl)
        replace hM : Mem w0.heap.size w0 [(1, some (.ro Ga (gaps.map (Value.int .u16)))), (2, some (.ro Sa (sizes.map (Value.int .u16)))), (4, some (.row bb2 39 #[.int .i64 ob, .int .i64 oq])), (5, some (.own (.slice AA3 lcf.length cc3) 64 2 lcf.length (flat2 lcf))), (6, some (.own (.slice G1 on c1) 64 2 on (flat2 oo))), (7, some (.own (.slice AA7 (on + 1) cc7) 64 2 (on + 1) (flat2 (oo ++ [((pr lcf k).1, (pr lcf k).2)])))), (8, some (.row bb6 64 #[.int .i64 (pr lcf k).1, .int .i64 (pr lcf k).2]))] w := hM.cast (by kernel_rfl)
        refine hK10 _ _ ?_
        refine wp_seq_k fun K11 hK11 => ?_
        have hnt : ckE ob oq (oo ++ [((pr lcf k).1, (pr lcf k).2)]) = 0 := ckE_zero hob (hCf.tr tr_lcf (by omega) (by omega))
        refine wp_region_lit ?_
        refine wl (eL 29 4 0 (v := .agg #[.int .i64 ob, .int .i64 oq]) hF hM (by kernel_rfl) rfl rfl (by kernel_rfl) (by kernel_rfl) fun a w hF hM => ?_)
        refine sB 1 [(30, .slice AA7 (on + 1) cc7)] hF (by kernel_rfl) fun a hF => ?_
        refine wl (eM 31 (v := .tuple #[.bool (cfB ob oq (oo ++ [((pr lcf k).1, (pr lcf k).2)])), .int .i64 (ckE ob oq (oo ++ [((pr lcf k).1, (pr lcf k).2)]))]) hF hM (by kernel_rfl) (yld_call (f := 33) (args := #[.agg #[.int .i64 ob, .int .i64 oq], .slice AA7 (on + 1) cc7]) hF (by kernel_rfl) (fun _ => by kernel_rfl) (fun w hM => (by rw [show on + 1 = (oo ++ [((pr lcf k).1, (pr lcf k).2)]).length from by first | omega | (simp; done) | (simp; omega)]; exact conforms_w ob oq AA7 (oo ++ [((pr lcf k).1, (pr lcf k).2)]) _ w (ro_of_own (hM.ok 7 _ rfl))))) fun a w hF hM => ?_)
        refine sB 5 [(28, .tuple #[.bool (cfB ob oq (oo ++ [((pr lcf k).1, (pr lcf k).2)])), .int .i64 (ckE ob oq (oo ++ [((pr lcf k).1, (pr lcf k).2)]))]), (32, .bool (cfB ob oq (oo ++ [((pr lcf k).1, (pr lcf k).2)]))), (33, .int .i64 (ckE ob oq (oo ++ [((pr lcf k).1, (pr lcf k).2)]))), (9, .bool (cfB ob oq (oo ++ [((pr lcf k).1, (pr lcf k).2)]))), (10, .int .i64 (ckE ob oq (oo ++ [((pr lcf k).1, (pr lcf k).2)])))] hF (by kernel_rfl) fun a hF => ?_
        refine wpList_nil ?_
        refine hK11 _ _ ?_
        refine wp_seq_k fun K12 hK12 => ?_
        cases hz5 : (cfB ob oq (oo ++ [((pr lcf k).1, (pr lcf k).2)]))
        · skip
          replace hF := hF.c hF (i := 9) (v := .bool false) rfl (congrArg Value.bool hz5)
          replace hF := hF.c hF (i := 32) (v := .bool false) rfl (congrArg Value.bool hz5)
          refine wp_region_lit ?_
          refine sB 5 [(34, .bool false), (35, .bool false), (36, undef), (37, undef), (38, .bool false)] hF (by kernel_rfl) fun a hF => ?_
          refine wpList_nil ?_
          refine hK12 _ _ ?_
          refine cF hF (by kernel_rfl) (by kernel_rfl) ?_
          refine wp_skip ?_
          refine hK9 _ _ ?_
          refine wp_region_lit ?_
          refine sB 1 [(17, .int .i64 (k : Int))] hF (by kernel_rfl) fun a hF => ?_
          refine wl (eP 18 (v0 := .int .i64 (IntKind.i64.wrap ((k : Int) + 1))) (v := .int .i64 ((k : Int) + 1)) hF (by kernel_rfl) (fun _ => by kernel_rfl) (wi (by omega)) fun a hF => ?_)
          refine sB 1 [(7, .int .i64 ((k : Int) + 1))] hF (by kernel_rfl) fun a hF => ?_
          refine wpList_nil ?_
          refine hK6 _ _ ⟨(k + 1, oo, on, G1, c1), ⟨((((((Fr.nil hF).c hF (i := 6) rfl rfl).c hF (i := 4) rfl rfl).c hF (i := 3) rfl rfl).c hF (i := 7) rfl (vi (show ((k : Int) + 1 : Int) = ((k + 1) : Int) from by omega))).c hF (i := 5) rfl rfl), (hM.sub (((((Sub.nil.c (k := 6) rfl rfl).c (k := 5) rfl rfl).c (k := 4) rfl rfl).c (k := 2) rfl rfl).c (k := 1) rfl rfl)), (show ((k + 1) : Int) ≤ (lcf.length : Int) from by omega), (show (oo.length : Int) = (on : Int) from by omega), (show CfAt ob oq lcf (k + 1) oo from by exact hCf.no tr_lcf (by omega) hz5)⟩, (show lcf.length - (k + 1) < lcf.length - k from by omega)⟩
        · skip
          replace hF := hF.c hF (i := 9) (v := .bool true) rfl (congrArg Value.bool hz5)
          replace hF := hF.c hF (i := 32) (v := .bool true) rfl (congrArg Value.bool hz5)
          refine wp_region_lit ?_
          refine sB 3 [(34, .bool true), (35, .bool true), (36, .int .i64 (ckE ob oq (oo ++ [((pr lcf k).1, (pr lcf k).2)])))] hF (by kernel_rfl) fun a hF => ?_
          refine wl (eP 37 (v0 := .bool (decide (ckE ob oq (oo ++ [((pr lcf k).1, (pr lcf k).2)]) = 0))) (v := .bool true) hF (by kernel_rfl) (fun _ => by kernel_rfl) (bT hnt) fun a hF => ?_)
          refine sB 1 [(38, .bool true)] hF (by kernel_rfl) fun a hF => ?_
          refine wpList_nil ?_
          refine hK12 _ _ ?_
          refine cT hF (by kernel_rfl) (by kernel_rfl) ?_
          refine wp_region_lit ?_
          refine sB 2 [(39, .slice AA7 (on + 1) cc7), (5, .slice AA7 (on + 1) cc7)] hF (by kernel_rfl) fun a hF => ?_
          refine wpList_nil ?_
          refine hK9 _ _ ?_
          refine wp_region_lit ?_
          refine sB 1 [(17, .int .i64 (k : Int))] hF (by kernel_rfl) fun a hF => ?_
          refine wl (eP 18 (v0 := .int .i64 (IntKind.i64.wrap ((k : Int) + 1))) (v := .int .i64 ((k : Int) + 1)) hF (by kernel_rfl) (fun _ => by kernel_rfl) (wi (by omega)) fun a hF => ?_)
          refine sB 1 [(7, .int .i64 ((k : Int) + 1))] hF (by kernel_rfl) fun a hF => ?_
          refine wpList_nil ?_
          replace hM := hM.move 6 7 rfl (by decide)
          refine hK6 _ _ ⟨(k + 1, oo ++ [((pr lcf k).1, (pr lcf k).2)], on + 1, AA7, cc7), ⟨((((((Fr.nil hF).c hF (i := 6) rfl rfl).c hF (i := 4) rfl rfl).c hF (i := 3) rfl rfl).c hF (i := 7) rfl (vi (show ((k : Int) + 1 : Int) = ((k + 1) : Int) from by omega))).c hF (i := 5) rfl rfl), (hM.sub (((((Sub.nil.c (k := 6) rfl rfl).c (k := 5) rfl rfl).c (k := 4) rfl rfl).c (k := 2) rfl rfl).c (k := 1) rfl rfl)), (show ((k + 1) : Int) ≤ (lcf.length : Int) from by omega), (show ((oo ++ [((pr lcf k).1, (pr lcf k).2)]).length : Int) = ((on + 1) : Int) from by first | omega | (simp; omega)), (show CfAt ob oq lcf (k + 1) (oo ++ [((pr lcf k).1, (pr lcf k).2)]) from by exact hCf.yes tr_lcf (by omega) hz5)⟩, (show lcf.length - (k + 1) < lcf.length - k from by omega)⟩
    · skip
      replace hF := hF.c hF (i := 16) (v := .bool false) rfl (bF hz4)
      refine cF hF (by kernel_rfl) (by kernel_rfl) ?_
      refine wp_exit ?_
      refine hK4 _ _ ?_
      refine wp_seq_k fun K13 hK13 => ?_
      refine wp_region_lit ?_
      refine sB 2 [(40, .slice G1 on c1), (4, .slice G1 on c1)] hF (by kernel_rfl) fun a hF => ?_
      refine wpList_nil ?_
      refine hK13 _ _ ?_
      refine wp_ret ?_
      refine hR0 _ _ ?_
      refine ret_of hF hM (.tmp rfl (.nil)) ?_
      have hd := hCf.done (by omega)
      have ho := hM.ok 6 _ rfl
      have hx : cfTr ob oq (cfDr bu ra gaps sizes) = oo := by rw [← hd, e_lcf]
      exact ⟨_, _, by rw [hx, show oo.length = on from by omega]; rfl, by rw [hx, show oo.length = on from by omega]; exact ho, hM.bel⟩

end Go.Proofs.Ytoighcbbaacnaaa
