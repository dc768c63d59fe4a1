/-
  The walk of CreditShare.
-/
import Derived.Test.YtjepnlebmgkomaaCrE
namespace Go.Proofs.Ytjepnlebmgkomaa
open Go.RowKit
set_option linter.unusedVariables false
set_option linter.unusedSimpArgs false

set_option maxRecDepth 100000 in
set_option maxHeartbeats 4000000 in
theorem creditShare_walk (na nb : Int) (bu ra : Int) (Ga : Option Addr) (gaps : List Int) (cg : Nat) (Sa : Option Addr) (sizes : List Int) (cs : Nat) (Fa : Option Addr) (free : List Int) (cf : Nat) (w0 : World) (hGa : Ro w0 Ga (gaps.map (Value.int .u16))) (hSa : Ro w0 Sa (sizes.map (Value.int .u16))) (hg : All16 gaps) (hs : All16 sizes) (hmg : gaps.length ≤ 9223372036854775807) (hms : sizes.length ≤ 9223372036854775807) (hFa : Ro w0 Fa (free.map (Value.int .u16))) (hf : All16 free) (hmf : free.length ≤ 9223372036854775807) (h : 0 ≤ na ∧ na < 4294967296 ∧ 0 ≤ nb ∧ nb < 4294967296) :
    Calls Try.prog 5 #[.agg #[.int .u32 na, .int .u32 nb], .agg #[.int .u32 bu, .int .u32 ra, .slice Ga gaps.length cg, .slice Sa sizes.length cs], .slice Fa free.length cf] w0 (Ret w0 (.bool true)) := by
  refine enterK 196 Try.func5 rfl rfl rfl ?_
  intro a hF Q0 hR0 hN0
  have hM := Mem.start w0
  replace hM := hM.addOld 1 hGa (Nat.le_refl _)
  replace hM := hM.addOld 2 hSa (Nat.le_refl _)
  replace hM := hM.addOld 3 hFa (Nat.le_refl _)
  refine wp_seq_k fun K1 hK1 => ?_
  refine wp_region_lit ?_
  refine wl (eN 3 4 (t := 30) (fun b => .pointer (some ⟨b, 0, none⟩)) #[.int .u32 na, .int .u32 nb] hF hM (by kernel_rfl) (fun _ => by kernel_rfl) fun bb1 a w hF hM => ?_)
  refine wl (eN 4 5 (t := 28) (fun b => .pointer (some ⟨b, 0, none⟩)) #[.int .u32 bu, .int .u32 ra, .slice Ga gaps.length cg, .slice Sa sizes.length cs] hF hM (by kernel_rfl) (fun _ => by kernel_rfl) fun bb2 a w hF hM => ?_)
  refine sB 1 [(6, .bool false)] hF (by kernel_rfl) fun a hF => ?_
  refine wpList_nil ?_
  refine hK1 _ _ ?_
  refine wp_seq_k fun K2 hK2 => ?_
  refine wp_seq_k fun K3 hK3 => ?_
  refine wp_region_lit ?_
  refine wl (eM 21 (v := .bool true) hF hM (by kernel_rfl) (yld_call (f := 15) (args := #[]) hF (by kernel_rfl) (fun _ => by kernel_rfl) (fun w hM => works_w w)) fun a w hF hM => ?_)
  refine sB 1 [(22, .bool false)] hF (by kernel_rfl) fun a hF => ?_
  refine wpList_nil ?_
  refine hK3 _ _ ?_
  refine cF hF (by kernel_rfl) (by kernel_rfl) ?_
  refine wp_skip ?_
  refine hK2 _ _ ?_
  refine wp_seq_k fun K4 hK4 => ?_
  obtain ⟨srt, e_srt⟩ : ∃ x : Int, x = ofR na (nb % 65536) := ⟨_, rfl⟩
  obtain ⟨spr, e_spr⟩ : ∃ x : Int, x = ofP (nb % 65536) := ⟨_, rfl⟩
  have hslo : slopeE srt spr = 0 := by rw [e_srt, e_spr]; exact of_slope (by omega) (by omega)
  have := slopeE_ok hslo
  obtain ⟨lcr, e_lcr⟩ : ∃ x : List (Int × Int), x = crTr gaps sizes := ⟨_, rfl⟩
  have tr_lcr : trE lcr = 0 := by rw [e_lcr]; exact crTr_trE hg hs
  have le_lcr : lcr.length ≤ 30 := by rw [e_lcr]; exact crTr_le _ _
  have pr_lcr : ∀ k, k < lcr.length → 0 ≤ (pr lcr k).1 ∧ (pr lcr k).1 ≤ 1966050 ∧ 1 ≤ (pr lcr k).2 ∧ (pr lcr k).2 ≤ 1542 := by rw [e_lcr]; exact fun k hk => crTr_pr hg hs hk
  refine rF (by kernel_rfl) (by kernel_rfl) (fun S a w => ∃ AA3 : Option Addr, ∃ cc3 : Nat, ∃ bb4 : Nat, Fr 196 [(2, some (.slice Fa free.length cf)), (3, some (.pointer (some ⟨bb1, 0, none⟩))), (4, some (.pointer (some ⟨bb2, 0, none⟩))), (6, some (.bool false)), (7, (cond (S.getD 8 false) (some (.pointer (some ⟨bb4, 0, none⟩))) none)), (8, (cond (S.getD 10 false) (some (.slice AA3 lcr.length cc3)) none)), (23, (cond (S.getD 0 false) (some (.pointer (some ⟨bb1, 0, none⟩))) none)), (24, (cond (S.getD 1 false) (some (.int .u32 na)) none)), (25, (cond (S.getD 2 false) (some (.pointer (some ⟨bb1, 1, none⟩))) none)), (26, (cond (S.getD 3 false) (some (.int .u32 nb)) none)), (27, (cond (S.getD 4 false) (some (.int .u16 (nb % 65536))) none)), (28, (cond (S.getD 5 false) (some (.agg #[.int .i64 srt, .int .i64 spr])) none)), (29, (cond (S.getD 6 false) (some (.agg #[.int .u32 bu, .int .u32 ra, .slice Ga gaps.length cg, .slice Sa sizes.length cs])) none)), (30, (cond (S.getD 7 false) (some (.slice AA3 lcr.length cc3)) none))] a ∧ Mem w0.heap.size w0 [(1, some (.ro Ga (gaps.map (Value.int .u16)))), (2, some (.ro Sa (sizes.map (Value.int .u16)))), (3, some (.ro Fa (free.map (Value.int .u16)))), (4, some (.row bb1 30 #[.int .u32 na, .int .u32 nb])), (5, some (.row bb2 28 #[.int .u32 bu, .int .u32 ra, .slice Ga gaps.length cg, .slice Sa sizes.length cs])), (6, (cond (S.getD 7 false) (some (.own (.slice AA3 lcr.length cc3) 57 2 lcr.length (flat2 lcr))) none)), (7, (cond (S.getD 9 false) (some (.row bb4 23 #[.int .i64 srt, .int .i64 spr])) (cond (S.getD 8 false) (some (.row bb4 23 #[.int .i64 0, .int .i64 0])) none)))] w) ?_ ?_ ?_
  · exact ⟨none, 0, 0, (((((((((((((((Fr.nil hF).co hF (i := 30) (by kernel_rfl)).co hF (i := 29) (by kernel_rfl)).co hF (i := 28) (by kernel_rfl)).co hF (i := 27) (by kernel_rfl)).co hF (i := 26) (by kernel_rfl)).co hF (i := 25) (by kernel_rfl)).co hF (i := 24) (by kernel_rfl)).co hF (i := 23) (by kernel_rfl)).co hF (i := 8) (by kernel_rfl)).co hF (i := 7) (by kernel_rfl)).co hF (i := 6) (by kernel_rfl)).co hF (i := 4) (by kernel_rfl)).co hF (i := 3) (by kernel_rfl)).co hF (i := 2) (by kernel_rfl)), hM.drew.sub (((((((Sub.nil.co (k := 7) (by kernel_rfl)).co (k := 6) (by kernel_rfl)).co (k := 5) (by kernel_rfl)).co (k := 4) (by kernel_rfl)).co (k := 3) (by kernel_rfl)).co (k := 2) (by kernel_rfl)).co (k := 1) (by kernel_rfl))⟩
  · refine stC ?_ (stC ?_ (stC ?_ (stC ?_ (stC ?_ (stC ?_ (stC ?_ (stC ?_ (stC ?_ (stC ?_ (stC ?_ (trivial)))))))))))
    · intro s0 s1 s2 s3 s4 s5 s6 s7 s8 s9 s10 hc hi hp a w hS
      obtain rfl : s0 = false := hi
      obtain ⟨AA3, cc3, bb4, hF, hM⟩ := hS
      refine eP 23 (v0 := .pointer (some ⟨bb1, 0, none⟩)) (v := .pointer (some ⟨bb1, 0, none⟩)) hF (by kernel_rfl) (fun _ => by kernel_rfl) rfl fun a hF => ?_
      exact ⟨AA3, cc3, bb4, ((hF.repl 6 (by kernel_rfl)).cast (by kernel_rfl)), (hM.cast (by kernel_rfl))⟩
    · intro s0 s1 s2 s3 s4 s5 s6 s7 s8 s9 s10 hc hi hp a w hS
      obtain rfl : s1 = false := hi
      obtain rfl : s0 = true := hp 0 (by kernel_rfl)
      obtain ⟨AA3, cc3, bb4, hF, hM⟩ := hS
      refine eL 24 4 0 (v := .int .u32 na) hF hM (by kernel_rfl) rfl rfl (by kernel_rfl) (by kernel_rfl) fun a w hF hM => ?_
      exact ⟨AA3, cc3, bb4, ((hF.repl 7 (by kernel_rfl)).cast (by kernel_rfl)), (hM.cast (by kernel_rfl))⟩
    · intro s0 s1 s2 s3 s4 s5 s6 s7 s8 s9 s10 hc hi hp a w hS
      obtain rfl : s2 = false := hi
      obtain ⟨AA3, cc3, bb4, hF, hM⟩ := hS
      refine eP 25 (v0 := .pointer (some ⟨bb1, 1, none⟩)) (v := .pointer (some ⟨bb1, 1, none⟩)) hF (by kernel_rfl) (fun _ => by kernel_rfl) rfl fun a hF => ?_
      exact ⟨AA3, cc3, bb4, ((hF.repl 8 (by kernel_rfl)).cast (by kernel_rfl)), (hM.cast (by kernel_rfl))⟩
    · intro s0 s1 s2 s3 s4 s5 s6 s7 s8 s9 s10 hc hi hp a w hS
      obtain rfl : s3 = false := hi
      obtain rfl : s2 = true := hp 2 (by kernel_rfl)
      obtain ⟨AA3, cc3, bb4, hF, hM⟩ := hS
      refine eL 26 4 1 (v := .int .u32 nb) hF hM (by kernel_rfl) rfl rfl (by kernel_rfl) (by kernel_rfl) fun a w hF hM => ?_
      exact ⟨AA3, cc3, bb4, ((hF.repl 9 (by kernel_rfl)).cast (by kernel_rfl)), (hM.cast (by kernel_rfl))⟩
    · intro s0 s1 s2 s3 s4 s5 s6 s7 s8 s9 s10 hc hi hp a w hS
      obtain rfl : s4 = false := hi
      obtain rfl : s3 = true := hp 3 (by kernel_rfl)
      obtain ⟨AA3, cc3, bb4, hF, hM⟩ := hS
      refine eP 27 (v0 := .int .u16 (IntKind.u16.wrap nb)) (v := .int .u16 (nb % 65536)) hF (by kernel_rfl) (fun _ => by kernel_rfl) (vi (u16_wrap _)) fun a hF => ?_
      exact ⟨AA3, cc3, bb4, ((hF.repl 10 (by kernel_rfl)).cast (by kernel_rfl)), (hM.cast (by kernel_rfl))⟩
    · intro s0 s1 s2 s3 s4 s5 s6 s7 s8 s9 s10 hc hi hp a w hS
      obtain rfl : s5 = false := hi
      obtain rfl : s4 = true := hp 4 (by kernel_rfl)
      obtain rfl : s1 = true := hp 1 (by kernel_rfl)
      obtain ⟨AA3, cc3, bb4, hF, hM⟩ := hS
      refine eM 28 (v := .agg #[.int .i64 srt, .int .i64 spr]) hF hM (by kernel_rfl) (yld_call (f := 9) (args := #[.int .u32 na, .int .u16 (nb % 65536)]) hF (by kernel_rfl) (fun _ => by kernel_rfl) (fun w hM => by rw [e_srt, e_spr]; exact crOf_w na (nb % 65536) w (by omega))) fun a w hF hM => ?_
      exact ⟨AA3, cc3, bb4, ((hF.repl 11 (by kernel_rfl)).cast (by kernel_rfl)), (hM.cast (by kernel_rfl))⟩
    · intro s0 s1 s2 s3 s4 s5 s6 s7 s8 s9 s10 hc hi hp a w hS
      obtain rfl : s6 = false := hi
      obtain ⟨AA3, cc3, bb4, hF, hM⟩ := hS
      refine eL 29 5 0 (v := .agg #[.int .u32 bu, .int .u32 ra, .slice Ga gaps.length cg, .slice Sa sizes.length cs]) hF hM (by kernel_rfl) rfl rfl (by kernel_rfl) (by kernel_rfl) fun a w hF hM => ?_
      exact ⟨AA3, cc3, bb4, ((hF.repl 12 (by kernel_rfl)).cast (by kernel_rfl)), (hM.cast (by kernel_rfl))⟩
    · intro s0 s1 s2 s3 s4 s5 s6 s7 s8 s9 s10 hc hi hp a w hS
      obtain rfl : s7 = false := hi
      obtain rfl : s6 = true := hp 6 (by kernel_rfl)
      obtain rfl : s10 = false := hc.f 10 7 (by kernel_rfl) rfl
      obtain ⟨AA3, cc3, bb4, hF, hM⟩ := hS
      refine sOwn 6 (f := 11) (args := #[.agg #[.int .u32 bu, .int .u32 ra, .slice Ga gaps.length cg, .slice Sa sizes.length cs]]) (mk := fun v => v) (e := 57) (size := 2) (m := lcr.length) (xs := (flat2 lcr)) hF hM (by kernel_rfl) rfl (by decide) (by kernel_rfl) (fun _ => by kernel_rfl) (by rw [e_lcr]; exact crTrace_w bu ra Ga gaps cg Sa sizes cs w (hM.ok 1 _ rfl) (hM.ok 2 _ rfl) hg hs (by omega) (by omega)) fun AA3 cc3 a w hF hM => ?_
      exact ⟨AA3, cc3, bb4, ((hF.repl 13 (by kernel_rfl)).cast (by kernel_rfl)), ((hM.repl 5 (by kernel_rfl)).cast (by kernel_rfl))⟩
    · intro s0 s1 s2 s3 s4 s5 s6 s7 s8 s9 s10 hc hi hp a w hS
      obtain rfl : s8 = false := hi
      obtain rfl : s9 = false := hc.f 9 8 (by kernel_rfl) rfl
      obtain ⟨AA3, cc3, bb4, hF, hM⟩ := hS
      refine eN 7 7 (t := 23) (fun b => .pointer (some ⟨b, 0, none⟩)) #[.int .i64 0, .int .i64 0] hF hM (by kernel_rfl) (fun _ => by kernel_rfl) fun bb4 a w hF hM => ?_
      exact ⟨AA3, cc3, bb4, ((hF.repl 4 (by kernel_rfl)).cast (by kernel_rfl)), ((hM.repl 6 (by kernel_rfl)).cast (by kernel_rfl))⟩
    · intro s0 s1 s2 s3 s4 s5 s6 s7 s8 s9 s10 hc hi hp a w hS
      obtain rfl : s9 = false := hi
      obtain rfl : s8 = true := hp 8 (by kernel_rfl)
      obtain rfl : s5 = true := hp 5 (by kernel_rfl)
      obtain ⟨AA3, cc3, bb4, hF, hM⟩ := hS
      refine sStore (i := 7) (off := 0) (cs' := #[.int .i64 srt, .int .i64 spr]) hF hM (by kernel_rfl) rfl rfl (by kernel_rfl) (by kernel_rfl) rfl (by kernel_rfl) fun w hM => ?_
      exact ⟨AA3, cc3, bb4, (hF.cast (by kernel_rfl)), ((hM.repl 6 (by kernel_rfl)).cast (by kernel_rfl))⟩
    · intro s0 s1 s2 s3 s4 s5 s6 s7 s8 s9 s10 hc hi hp a w hS
      obtain rfl : s10 = false := hi
      obtain rfl : s7 = true := hp 7 (by kernel_rfl)
      obtain ⟨AA3, cc3, bb4, hF, hM⟩ := hS
      refine eP 8 (v0 := .slice AA3 lcr.length cc3) (v := .slice AA3 lcr.length cc3) hF (by kernel_rfl) (fun _ => by kernel_rfl) rfl fun a hF => ?_
      exact ⟨AA3, cc3, bb4, ((hF.repl 5 (by kernel_rfl)).cast (by kernel_rfl)), (hM.cast (by kernel_rfl))⟩
  · intro a w hS
    obtain ⟨AA3, cc3, bb4, hF, hM⟩ := hS
    replace hF : Fr 196 [(2, some (.slice Fa free.length cf)), (3, some (.pointer (some ⟨bb1, 0, none⟩))), (4, some (.pointer (some ⟨bb2, 0, none⟩))), (6, some (.bool false)), (7, some (.pointer (some ⟨bb4, 0, none⟩))), (8, some (.slice AA3 lcr.length cc3)), (23, some (.pointer (some ⟨bb1, 0, none⟩))), (24, some (.int .u32 na)), (25, some (.pointer (some ⟨bb1, 1, none⟩))), (26, some (.int .u32 nb)), (27, some (.int .u16 (nb % 65536))), (28, some (.agg #[.int .i64 srt, .int .i64 spr])), (29, some (.agg #[.int .u32 bu, .int .u32 ra, .slice Ga gaps.length cg, .slice Sa sizes.length cs])), (30, some (.slice AA3 lcr.length cc3))] a := hF.cast (by kernel_rfl)
    replace hM : Mem w0.heap.size w0 [(1, some (.ro Ga (gaps.map (Value.int .u16)))), (2, some (.ro Sa (sizes.map (Value.int .u16)))), (3, some (.ro Fa (free.map (Value.int .u16)))), (4, some (.row bb1 30 #[.int .u32 na, .int .u32 nb])), (5, some (.row bb2 28 #[.int .u32 bu, .int .u32 ra, .slice Ga gaps.length cg, .slice Sa sizes.length cs])), (6, some (.own (.slice AA3 lcr.length cc3) 57 2 lcr.length (flat2 lcr))), (7, some (.row bb4 23 #[.int .i64 srt, .int .i64 spr]))] w := hM.cast (by kernel_rfl)
    refine hK4 _ _ ?_
    refine wp_seq_k fun K5 hK5 => ?_
    refine wp_region_lit ?_
    refine sB 2 [(9, .slice none 0 0), (10, .slice none 0 0)] hF (by kernel_rfl) fun a hF => ?_
    refine wpList_nil ?_
    refine hK5 _ _ ?_
    refine wp_seq_k fun K6 hK6 => ?_
    refine wp_region_lit ?_
    refine sB 1 [(31, .agg #[.int .i64 0, .int .i64 0])] hF (by kernel_rfl) fun a hF => ?_
    refine wl (eN 11 8 (t := 40) (fun b => .pointer (some ⟨b, 0, none⟩)) #[.int .i64 0, .int .i64 0] hF hM (by kernel_rfl) (fun _ => by kernel_rfl) fun bb5 a w hF hM => ?_)
    refine wl (sStore (i := 8) (off := 0) (cs' := #[.int .i64 0, .int .i64 0]) hF hM (by kernel_rfl) rfl rfl (by kernel_rfl) (by kernel_rfl) rfl (by kernel_rfl) fun w hM => ?_)
    refine wpList_nil ?_
    refine hK6 _ _ ?_
    refine wp_seq_k fun K7 hK7 => ?_
    refine wp_seq_k fun K8 hK8 => ?_
    refine wp_region_lit ?_
    refine sB 1 [(12, .int .i64 0)] hF (by kernel_rfl) fun a hF => ?_
    refine wpList_nil ?_
    refine hK8 _ _ ?_
    refine wp_block ?_
    replace hM := hM.addNil 9 3 1
    replace hM := hM.addNil 10 3 1
    refine wp_loop_k (G := Nat × Int × Int × List Int × List Int × Option Addr × Nat × Option Addr × Nat) (fun gg a w => Fr 196 [(9, some (.slice gg.2.2.2.2.2.1 gg.1 gg.2.2.2.2.2.2.1)), (10, some (.slice gg.2.2.2.2.2.2.2.1 gg.1 gg.2.2.2.2.2.2.2.2)), (12, some (.int .i64 (gg.1 : Int))), (2, some (.slice Fa free.length cf)), (7, some (.pointer (some ⟨bb4, 0, none⟩))), (8, some (.slice AA3 lcr.length cc3)), (11, some (.pointer (some ⟨bb5, 0, none⟩)))] a ∧ Mem w0.heap.size w0 [(1, some (.ro Ga (gaps.map (Value.int .u16)))), (2, some (.ro Sa (sizes.map (Value.int .u16)))), (3, some (.ro Fa (free.map (Value.int .u16)))), (6, some (.own (.slice AA3 lcr.length cc3) 57 2 lcr.length (flat2 lcr))), (7, some (.row bb4 23 #[.int .i64 srt, .int .i64 spr])), (8, some (.row bb5 40 #[.int .i64 gg.2.1, .int .i64 gg.2.2.1])), (9, some (.own (.slice gg.2.2.2.2.2.1 gg.1 gg.2.2.2.2.2.2.1) 3 1 gg.1 (gg.2.2.2.1.map (Value.int .i64)))), (10, some (.own (.slice gg.2.2.2.2.2.2.2.1 gg.1 gg.2.2.2.2.2.2.2.2) 3 1 gg.1 (gg.2.2.2.2.1.map (Value.int .i64))))] w ∧ ((gg.1 : Int) ≤ (lcr.length : Int)) ∧ ((gg.2.2.2.1.length : Int) = (gg.1 : Int)) ∧ ((gg.2.2.2.2.1.length : Int) = (gg.1 : Int)) ∧ (Sh srt lcr gg.1 gg.2.2.2.1 gg.2.2.2.2.1 gg.2.1 gg.2.2.1)) (fun gg => lcr.length - gg.1) (0, 0, 0, [], [], none, 0, none, 0) ?_ ?_
    · refine ⟨((((((((Fr.nil hF).c hF (i := 11) rfl rfl).c hF (i := 8) rfl rfl).c hF (i := 7) rfl rfl).c hF (i := 2) rfl rfl).c hF (i := 12) rfl (vi (show (0 : Int) = (0 : Int) from by omega))).c hF (i := 10) rfl rfl).c hF (i := 9) rfl rfl), (hM.sub ((((((((Sub.nil.c (k := 10) rfl rfl).c (k := 9) rfl rfl).c (k := 8) rfl rfl).c (k := 7) rfl rfl).c (k := 6) rfl rfl).c (k := 3) rfl rfl).c (k := 2) rfl rfl).c (k := 1) rfl rfl)), (show (0 : Int) ≤ (lcr.length : Int) from by omega), (show (([]).length : Int) = (0 : Int) from by rfl), (show (([]).length : Int) = (0 : Int) from by rfl), (show Sh srt lcr 0 ([]) ([]) 0 0 from by exact Sh.zero srt lcr)⟩
    · intro gg a w hI
      intro K9 hK9
      obtain ⟨k, aa, bl, SS, LL, G1, c1, G2, c2⟩ := gg
      try dsimp only at hI hK9
      obtain ⟨hF, hM, hz1, hz2, hz3, hz4⟩ := hI
      have hSh : Sh srt lcr k SS LL aa bl := by assumption
      have hstB := stateB_iff.1 hSh.st
      refine wp_seq_k fun K10 hK10 => ?_
      refine wp_seq_k fun K11 hK11 => ?_
      refine wp_region_lit ?_
      refine sB 4 [(32, .int .i64 (k : Int)), (33, .slice AA3 lcr.length cc3), (34, .int .i64 (lcr.length : Int)), (35, .bool (decide ((k : Int) < (lcr.length : Int))))] hF (by kernel_rfl) fun a hF => ?_
      refine wpList_nil ?_
      refine hK11 _ _ ?_
      by_cases hz5 : (k : Int) < (lcr.length : Int)
      · skip
        replace hF := hF.c hF (i := 35) (v := .bool true) rfl (bT hz5)
        refine cT hF (by kernel_rfl) (by kernel_rfl) ?_
        refine wp_skip ?_
        refine hK10 _ _ ?_
        refine wp_seq_k fun K12 hK12 => ?_
        refine wp_block ?_
        refine wp_seq_k fun K13 hK13 => ?_
        refine wp_region_lit ?_
        refine sB 1 [(13, .int .i64 0)] hF (by kernel_rfl) fun a hF => ?_
        refine wpList_nil ?_
        refine hK13 _ _ ?_
        refine wp_seq_k fun K14 hK14 => ?_
        refine wp_seq_k fun K15 hK15 => ?_
        have hprk := pr_lcr k (by omega)
        refine wp_region_lit ?_
        refine sB 4 [(38, .int .i64 (k : Int)), (39, .slice Fa free.length cf), (40, .int .i64 (free.length : Int)), (41, .bool (decide ((k : Int) < (free.length : Int))))] hF (by kernel_rfl) fun a hF => ?_
        refine wpList_nil ?_
        refine hK15 _ _ ?_
        by_cases hz6 : (k : Int) < (free.length : Int)
        · skip
          replace hF := hF.c hF (i := 41) (v := .bool true) rfl (bT hz6)
          refine cT hF (by kernel_rfl) (by kernel_rfl) ?_
          refine wp_region_lit ?_
          refine sB 2 [(42, .slice Fa free.length cf), (43, .int .i64 (k : Int))] hF (by kernel_rfl) fun a hF => ?_
          refine wl (eM 44 (v := .pointer (some (ea Fa (k)))) hF hM (by kernel_rfl) (yld_ix (kd := .i64) (e := 32) (len := free.length) (cap := cf) (i := (k : Int)) (size := 1) (A := Fa) hF rfl (by kernel_rfl) (by kernel_rfl) (by kernel_rfl) (by kernel_rfl) (by kernel_rfl) (roK 3 rfl) (by omega) (by omega) (by rw [List.length_map]; omega)) fun a w hF hM => ?_)
          refine wl (eM 45 (v := .int .u16 (nt free k)) hF hM (by kernel_rfl) (yld_ro1 (A := Fa) (j := k) hF rfl (by kernel_rfl) (by kernel_rfl) (roK 3 rfl) (by kernel_rfl) (nt_at (by omega))) fun a w hF hM => ?_)
          have := all16_nt hf k
          refine wl (eP 46 (v0 := .int .i64 (IntKind.i64.wrap (nt free k))) (v := .int .i64 (nt free k)) hF (by kernel_rfl) (fun _ => by kernel_rfl) (vi (IntWalk.i64_in _ (by omega))) fun a hF => ?_)
          refine wl (eP 47 (v0 := .int .i64 (IntKind.i64.wrap (nt free k * 16))) (v := .int .i64 (nt free k * 16)) hF (by kernel_rfl) (fun _ => by kernel_rfl) (wi (by omega)) fun a hF => ?_)
          refine sB 1 [(13, .int .i64 (nt free k * 16))] hF (by kernel_rfl) fun a hF => ?_
          refine wpList_nil ?_
          refine hK14 _ _ ?_
          refine wp_seq_k fun K16 hK16 => ?_
          have hfre : timeB (nt free k * 16) = true := timeB_iff.2 (by have := all16_nt hf k; omega)
          have htim : timeB (pr lcr k).1 = true := timeB_iff.2 (by omega)
          obtain ⟨sst, e_sst⟩ : ∃ x : Int, x = cstS srt spr aa bl (pr lcr k).1 (nt free k * 16) (pr lcr k).2 := ⟨_, rfl⟩
          obtain ⟨sat, e_sat⟩ : ∃ x : Int, x = cstA srt spr aa bl (pr lcr k).1 (nt free k * 16) (pr lcr k).2 := ⟨_, rfl⟩
          obtain ⟨slv, e_slv⟩ : ∃ x : Int, x = cstL srt spr aa bl (pr lcr k).1 (nt free k * 16) (pr lcr k).2 := ⟨_, rfl⟩
          obtain ⟨see, e_see⟩ : ∃ x : Int, x = cstE srt spr aa bl (pr lcr k).1 (nt free k * 16) (pr lcr k).2 := ⟨_, rfl⟩
          refine rF (by kernel_rfl) (by kernel_rfl) (fun S a w => ∃ bb6 : Nat, Fr 196 [(2, some (.slice Fa free.length cf)), (7, some (.pointer (some ⟨bb4, 0, none⟩))), (8, some (.slice AA3 lcr.length cc3)), (9, some (.slice G1 k c1)), (10, some (.slice G2 k c2)), (11, some (.pointer (some ⟨bb5, 0, none⟩))), (12, some (.int .i64 (k : Int))), (13, some (.int .i64 (nt free k * 16))), (14, (cond (S.getD 19 false) (some (.int .i64 sst)) none)), (15, (cond (S.getD 18 false) (some (.pointer (some ⟨bb6, 0, none⟩))) none)), (16, (cond (S.getD 21 false) (some (.int .i64 see)) none)), (32, some (.int .i64 (k : Int))), (33, some (.slice AA3 lcr.length cc3)), (34, some (.int .i64 (lcr.length : Int))), (35, some (.bool true)), (38, some (.int .i64 (k : Int))), (39, some (.slice Fa free.length cf)), (40, some (.int .i64 (free.length : Int))), (41, some (.bool true)), (42, some (.slice Fa free.length cf)), (43, some (.int .i64 (k : Int))), (44, some (.pointer (some (ea Fa (k))))), (45, some (.int .u16 (nt free k))), (46, some (.int .i64 (nt free k))), (47, some (.int .i64 (nt free k * 16))), (48, (cond (S.getD 14 false) (some (.tuple #[.int .i64 sst, .agg #[.int .i64 sat, .int .i64 slv], .int .i64 see])) none)), (49, (cond (S.getD 0 false) (some (.agg #[.int .i64 srt, .int .i64 spr])) none)), (50, (cond (S.getD 1 false) (some (.agg #[.int .i64 aa, .int .i64 bl])) none)), (51, (cond (S.getD 2 false) (some (.slice AA3 lcr.length cc3)) none)), (52, (cond (S.getD 3 false) (some (.int .i64 (k : Int))) none)), (53, (cond (S.getD 4 false) (some (.pointer (some (ea AA3 (k * 2))))) none)), (54, (cond (S.getD 5 false) (some (.pointer (some (ea AA3 (k * 2))))) none)), (55, (cond (S.getD 6 false) (some (.int .i64 (pr lcr k).1)) none)), (56, (cond (S.getD 7 false) (some (.int .i64 (nt free k * 16))) none)), (57, (cond (S.getD 8 false) (some (.slice AA3 lcr.length cc3)) none)), (58, (cond (S.getD 9 false) (some (.int .i64 (k : Int))) none)), (59, (cond (S.getD 10 false) (some (.pointer (some (ea AA3 (k * 2))))) none)), (60, (cond (S.getD 11 false) (some (.pointer (some (ea AA3 (k * 2 + 1))))) none)), (61, (cond (S.getD 12 false) (some (.int .i64 (pr lcr k).2)) none)), (62, (cond (S.getD 13 false) (some (.tuple #[.int .i64 sst, .agg #[.int .i64 sat, .int .i64 slv], .int .i64 see])) none)), (63, (cond (S.getD 15 false) (some (.int .i64 sst)) none)), (64, (cond (S.getD 16 false) (some (.agg #[.int .i64 sat, .int .i64 slv])) none)), (65, (cond (S.getD 17 false) (some (.int .i64 see)) none))] a ∧ Mem w0.heap.size w0 [(1, some (.ro Ga (gaps.map (Value.int .u16)))), (2, some (.ro Sa (sizes.map (Value.int .u16)))), (3, some (.ro Fa (free.map (Value.int .u16)))), (6, some (.own (.slice AA3 lcr.length cc3) 57 2 lcr.length (flat2 lcr))), (7, some (.row bb4 23 #[.int .i64 srt, .int .i64 spr])), (8, some (.row bb5 40 #[.int .i64 aa, .int .i64 bl])), (9, some (.own (.slice G1 k c1) 3 1 k (SS.map (Value.int .i64)))), (10, some (.own (.slice G2 k c2) 3 1 k (LL.map (Value.int .i64)))), (11, (cond (S.getD 20 false) (some (.row bb6 40 #[.int .i64 sat, .int .i64 slv])) (cond (S.getD 18 false) (some (.row bb6 40 #[.int .i64 0, .int .i64 0])) none)))] w) ?_ ?_ ?_
          · exact ⟨0, ((((((((((((((((((((((((((((((((((((((((((((Fr.nil hF).co hF (i := 65) (by kernel_rfl)).co hF (i := 64) (by kernel_rfl)).co hF (i := 63) (by kernel_rfl)).co hF (i := 62) (by kernel_rfl)).co hF (i := 61) (by kernel_rfl)).co hF (i := 60) (by kernel_rfl)).co hF (i := 59) (by kernel_rfl)).co hF (i := 58) (by kernel_rfl)).co hF (i := 57) (by kernel_rfl)).co hF (i := 56) (by kernel_rfl)).co hF (i := 55) (by kernel_rfl)).co hF (i := 54) (by kernel_rfl)).co hF (i := 53) (by kernel_rfl)).co hF (i := 52) (by kernel_rfl)).co hF (i := 51) (by kernel_rfl)).co hF (i := 50) (by kernel_rfl)).co hF (i := 49) (by kernel_rfl)).co hF (i := 48) (by kernel_rfl)).co hF (i := 47) (by kernel_rfl)).co hF (i := 46) (by kernel_rfl)).co hF (i := 45) (by kernel_rfl)).co hF (i := 44) (by kernel_rfl)).co hF (i := 43) (by kernel_rfl)).co hF (i := 42) (by kernel_rfl)).co hF (i := 41) (by kernel_rfl)).co hF (i := 40) (by kernel_rfl)).co hF (i := 39) (by kernel_rfl)).co hF (i := 38) (by kernel_rfl)).co hF (i := 35) (by kernel_rfl)).co hF (i := 34) (by kernel_rfl)).co hF (i := 33) (by kernel_rfl)).co hF (i := 32) (by kernel_rfl)).co hF (i := 16) (by kernel_rfl)).co hF (i := 15) (by kernel_rfl)).co hF (i := 14) (by kernel_rfl)).co hF (i := 13) (by kernel_rfl)).co hF (i := 12) (by kernel_rfl)).co hF (i := 11) (by kernel_rfl)).co hF (i := 10) (by kernel_rfl)).co hF (i := 9) (by kernel_rfl)).co hF (i := 8) (by kernel_rfl)).co hF (i := 7) (by kernel_rfl)).co hF (i := 2) (by kernel_rfl)), hM.drew.sub (((((((((Sub.nil.co (k := 11) (by kernel_rfl)).co (k := 10) (by kernel_rfl)).co (k := 9) (by kernel_rfl)).co (k := 8) (by kernel_rfl)).co (k := 7) (by kernel_rfl)).co (k := 6) (by kernel_rfl)).co (k := 3) (by kernel_rfl)).co (k := 2) (by kernel_rfl)).co (k := 1) (by kernel_rfl))⟩
          · refine stC ?_ (stC ?_ (stC ?_ (stC ?_ (stC ?_ (stC ?_ (stC ?_ (stC ?_ (stC ?_ (stC ?_ (stC ?_ (stC ?_ (stC ?_ (stC ?_ (stC ?_ (stC ?_ (stC ?_ (stC ?_ (stC ?_ (stC ?_ (stC ?_ (stC ?_ (trivial))))))))))))))))))))))
            · intro s0 s1 s2 s3 s4 s5 s6 s7 s8 s9 s10 s11 s12 s13 s14 s15 s16 s17 s18 s19 s20 s21 hc hi hp a w hS
              obtain rfl : s0 = false := hi
              obtain ⟨bb6, hF, hM⟩ := hS
              refine eL 49 7 0 (v := .agg #[.int .i64 srt, .int .i64 spr]) hF hM (by kernel_rfl) rfl rfl (by kernel_rfl) (by kernel_rfl) fun a w hF hM => ?_
              exact ⟨bb6, ((hF.repl 26 (by kernel_rfl)).cast (by kernel_rfl)), (hM.cast (by kernel_rfl))⟩
            · intro s0 s1 s2 s3 s4 s5 s6 s7 s8 s9 s10 s11 s12 s13 s14 s15 s16 s17 s18 s19 s20 s21 hc hi hp a w hS
              obtain rfl : s1 = false := hi
              obtain ⟨bb6, hF, hM⟩ := hS
              refine eL 50 8 0 (v := .agg #[.int .i64 aa, .int .i64 bl]) hF hM (by kernel_rfl) rfl rfl (by kernel_rfl) (by kernel_rfl) fun a w hF hM => ?_
              exact ⟨bb6, ((hF.repl 27 (by kernel_rfl)).cast (by kernel_rfl)), (hM.cast (by kernel_rfl))⟩
            · intro s0 s1 s2 s3 s4 s5 s6 s7 s8 s9 s10 s11 s12 s13 s14 s15 s16 s17 s18 s19 s20 s21 hc hi hp a w hS
              obtain rfl : s2 = false := hi
              obtain ⟨bb6, hF, hM⟩ := hS
              refine eP 51 (v0 := .slice AA3 lcr.length cc3) (v := .slice AA3 lcr.length cc3) hF (by kernel_rfl) (fun _ => by kernel_rfl) rfl fun a hF => ?_
              exact ⟨bb6, ((hF.repl 28 (by kernel_rfl)).cast (by kernel_rfl)), (hM.cast (by kernel_rfl))⟩
            · intro s0 s1 s2 s3 s4 s5 s6 s7 s8 s9 s10 s11 s12 s13 s14 s15 s16 s17 s18 s19 s20 s21 hc hi hp a w hS
              obtain rfl : s3 = false := hi
              obtain ⟨bb6, hF, hM⟩ := hS
              refine eP 52 (v0 := .int .i64 (k : Int)) (v := .int .i64 (k : Int)) hF (by kernel_rfl) (fun _ => by kernel_rfl) rfl fun a hF => ?_
              exact ⟨bb6, ((hF.repl 29 (by kernel_rfl)).cast (by kernel_rfl)), (hM.cast (by kernel_rfl))⟩
            · intro s0 s1 s2 s3 s4 s5 s6 s7 s8 s9 s10 s11 s12 s13 s14 s15 s16 s17 s18 s19 s20 s21 hc hi hp a w hS
              obtain rfl : s4 = false := hi
              obtain rfl : s3 = true := hp 3 (by kernel_rfl)
              obtain rfl : s2 = true := hp 2 (by kernel_rfl)
              obtain ⟨bb6, hF, hM⟩ := hS
              refine eM 53 (v := .pointer (some (ea AA3 (k * 2)))) hF hM (by kernel_rfl) (yld_ix (kd := .i64) (e := 57) (len := lcr.length) (cap := cc3) (i := (k : Int)) (size := 2) (A := AA3) hF rfl (by kernel_rfl) (by kernel_rfl) (by kernel_rfl) (by kernel_rfl) (by kernel_rfl) (roO 6 rfl) (by omega) (by omega) (by rw [flat2_length]; omega)) fun a w hF hM => ?_
              exact ⟨bb6, ((hF.repl 30 (by kernel_rfl)).cast (by kernel_rfl)), (hM.cast (by kernel_rfl))⟩
            · intro s0 s1 s2 s3 s4 s5 s6 s7 s8 s9 s10 s11 s12 s13 s14 s15 s16 s17 s18 s19 s20 s21 hc hi hp a w hS
              obtain rfl : s5 = false := hi
              obtain rfl : s4 = true := hp 4 (by kernel_rfl)
              obtain ⟨bb6, hF, hM⟩ := hS
              refine eP 54 (v0 := .pointer (some (ea AA3 (k * 2)))) (v := .pointer (some (ea AA3 (k * 2)))) hF (by kernel_rfl) (fun _ => by kernel_rfl) rfl fun a hF => ?_
              exact ⟨bb6, ((hF.repl 31 (by kernel_rfl)).cast (by kernel_rfl)), (hM.cast (by kernel_rfl))⟩
            · intro s0 s1 s2 s3 s4 s5 s6 s7 s8 s9 s10 s11 s12 s13 s14 s15 s16 s17 s18 s19 s20 s21 hc hi hp a w hS
              obtain rfl : s6 = false := hi
              obtain rfl : s5 = true := hp 5 (by kernel_rfl)
              obtain ⟨bb6, hF, hM⟩ := hS
              refine eM 55 (v := .int .i64 (pr lcr k).1) hF hM (by kernel_rfl) (yld_ro1 (A := AA3) (j := k * 2) hF rfl (by kernel_rfl) (by kernel_rfl) (roO 6 rfl) (by kernel_rfl) (pr_fst (k := k) (by omega) (by omega))) fun a w hF hM => ?_
              exact ⟨bb6, ((hF.repl 32 (by kernel_rfl)).cast (by kernel_rfl)), (hM.cast (by kernel_rfl))⟩
            · intro s0 s1 s2 s3 s4 s5 s6 s7 s8 s9 s10 s11 s12 s13 s14 s15 s16 s17 s18 s19 s20 s21 hc hi hp a w hS
              obtain rfl : s7 = false := hi
              obtain ⟨bb6, hF, hM⟩ := hS
              refine eP 56 (v0 := .int .i64 (nt free k * 16)) (v := .int .i64 (nt free k * 16)) hF (by kernel_rfl) (fun _ => by kernel_rfl) rfl fun a hF => ?_
              exact ⟨bb6, ((hF.repl 33 (by kernel_rfl)).cast (by kernel_rfl)), (hM.cast (by kernel_rfl))⟩
            · intro s0 s1 s2 s3 s4 s5 s6 s7 s8 s9 s10 s11 s12 s13 s14 s15 s16 s17 s18 s19 s20 s21 hc hi hp a w hS
              obtain rfl : s8 = false := hi
              obtain ⟨bb6, hF, hM⟩ := hS
              refine eP 57 (v0 := .slice AA3 lcr.length cc3) (v := .slice AA3 lcr.length cc3) hF (by kernel_rfl) (fun _ => by kernel_rfl) rfl fun a hF => ?_
              exact ⟨bb6, ((hF.repl 34 (by kernel_rfl)).cast (by kernel_rfl)), (hM.cast (by kernel_rfl))⟩
            · intro s0 s1 s2 s3 s4 s5 s6 s7 s8 s9 s10 s11 s12 s13 s14 s15 s16 s17 s18 s19 s20 s21 hc hi hp a w hS
              obtain rfl : s9 = false := hi
              obtain ⟨bb6, hF, hM⟩ := hS
              refine eP 58 (v0 := .int .i64 (k : Int)) (v := .int .i64 (k : Int)) hF (by kernel_rfl) (fun _ => by kernel_rfl) rfl fun a hF => ?_
              exact ⟨bb6, ((hF.repl 35 (by kernel_rfl)).cast (by kernel_rfl)), (hM.cast (by kernel_rfl))⟩
            · intro s0 s1 s2 s3 s4 s5 s6 s7 s8 s9 s10 s11 s12 s13 s14 s15 s16 s17 s18 s19 s20 s21 hc hi hp a w hS
              obtain rfl : s10 = false := hi
              obtain rfl : s9 = true := hp 9 (by kernel_rfl)
              obtain rfl : s8 = true := hp 8 (by kernel_rfl)
              obtain ⟨bb6, hF, hM⟩ := hS
              refine eM 59 (v := .pointer (some (ea AA3 (k * 2)))) hF hM (by kernel_rfl) (yld_ix (kd := .i64) (e := 57) (len := lcr.length) (cap := cc3) (i := (k : Int)) (size := 2) (A := AA3) hF rfl (by kernel_rfl) (by kernel_rfl) (by kernel_rfl) (by kernel_rfl) (by kernel_rfl) (roO 6 rfl) (by omega) (by omega) (by rw [flat2_length]; omega)) fun a w hF hM => ?_
              exact ⟨bb6, ((hF.repl 36 (by kernel_rfl)).cast (by kernel_rfl)), (hM.cast (by kernel_rfl))⟩
            · intro s0 s1 s2 s3 s4 s5 s6 s7 s8 s9 s10 s11 s12 s13 s14 s15 s16 s17 s18 s19 s20 s21 hc hi hp a w hS
              obtain rfl : s11 = false := hi
              obtain rfl : s10 = true := hp 10 (by kernel_rfl)
              obtain ⟨bb6, hF, hM⟩ := hS
              refine eP 60 (v0 := .pointer (some (ea AA3 (k * 2 + 1)))) (v := .pointer (some (ea AA3 (k * 2 + 1)))) hF (by kernel_rfl) (fun _ => by kernel_rfl) rfl fun a hF => ?_
              exact ⟨bb6, ((hF.repl 37 (by kernel_rfl)).cast (by kernel_rfl)), (hM.cast (by kernel_rfl))⟩
            · intro s0 s1 s2 s3 s4 s5 s6 s7 s8 s9 s10 s11 s12 s13 s14 s15 s16 s17 s18 s19 s20 s21 hc hi hp a w hS
              obtain rfl : s12 = false := hi
              obtain rfl : s11 = true := hp 11 (by kernel_rfl)
              obtain ⟨bb6, hF, hM⟩ := hS
              refine eM 61 (v := .int .i64 (pr lcr k).2) hF hM (by kernel_rfl) (yld_ro1 (A := AA3) (j := k * 2 + 1) hF rfl (by kernel_rfl) (by kernel_rfl) (roO 6 rfl) (by kernel_rfl) (pr_snd (k := k) (by omega) (by omega))) fun a w hF hM => ?_
              exact ⟨bb6, ((hF.repl 38 (by kernel_rfl)).cast (by kernel_rfl)), (hM.cast (by kernel_rfl))⟩
            · intro s0 s1 s2 s3 s4 s5 s6 s7 s8 s9 s10 s11 s12 s13 s14 s15 s16 s17 s18 s19 s20 s21 hc hi hp a w hS
              obtain rfl : s13 = false := hi
              obtain rfl : s12 = true := hp 12 (by kernel_rfl)
              obtain rfl : s7 = true := hp 7 (by kernel_rfl)
              obtain rfl : s6 = true := hp 6 (by kernel_rfl)
              obtain rfl : s1 = true := hp 1 (by kernel_rfl)
              obtain rfl : s0 = true := hp 0 (by kernel_rfl)
              obtain ⟨bb6, hF, hM⟩ := hS
              refine eM 62 (v := .tuple #[.int .i64 sst, .agg #[.int .i64 sat, .int .i64 slv], .int .i64 see]) hF hM (by kernel_rfl) (yld_call (f := 20) (args := #[.agg #[.int .i64 srt, .int .i64 spr], .agg #[.int .i64 aa, .int .i64 bl], .int .i64 (pr lcr k).1, .int .i64 (nt free k * 16), .int .i64 (pr lcr k).2]) hF (by kernel_rfl) (fun _ => by kernel_rfl) (fun w hM => by rw [e_sst, e_sat, e_slv, e_see]; exact crStep_w srt spr aa bl (pr lcr k).1 (nt free k * 16) (pr lcr k).2 w)) fun a w hF hM => ?_
              exact ⟨bb6, ((hF.repl 39 (by kernel_rfl)).cast (by kernel_rfl)), (hM.cast (by kernel_rfl))⟩
            · intro s0 s1 s2 s3 s4 s5 s6 s7 s8 s9 s10 s11 s12 s13 s14 s15 s16 s17 s18 s19 s20 s21 hc hi hp a w hS
              obtain rfl : s14 = false := hi
              obtain rfl : s13 = true := hp 13 (by kernel_rfl)
              obtain ⟨bb6, hF, hM⟩ := hS
              refine eP 48 (v0 := .tuple #[.int .i64 sst, .agg #[.int .i64 sat, .int .i64 slv], .int .i64 see]) (v := .tuple #[.int .i64 sst, .agg #[.int .i64 sat, .int .i64 slv], .int .i64 see]) hF (by kernel_rfl) (fun _ => by kernel_rfl) rfl fun a hF => ?_
              exact ⟨bb6, ((hF.repl 25 (by kernel_rfl)).cast (by kernel_rfl)), (hM.cast (by kernel_rfl))⟩
            · intro s0 s1 s2 s3 s4 s5 s6 s7 s8 s9 s10 s11 s12 s13 s14 s15 s16 s17 s18 s19 s20 s21 hc hi hp a w hS
              obtain rfl : s15 = false := hi
              obtain rfl : s14 = true := hp 14 (by kernel_rfl)
              obtain ⟨bb6, hF, hM⟩ := hS
              refine eP 63 (v0 := .int .i64 sst) (v := .int .i64 sst) hF (by kernel_rfl) (fun _ => by kernel_rfl) rfl fun a hF => ?_
              exact ⟨bb6, ((hF.repl 40 (by kernel_rfl)).cast (by kernel_rfl)), (hM.cast (by kernel_rfl))⟩
            · intro s0 s1 s2 s3 s4 s5 s6 s7 s8 s9 s10 s11 s12 s13 s14 s15 s16 s17 s18 s19 s20 s21 hc hi hp a w hS
              obtain rfl : s16 = false := hi
              obtain rfl : s14 = true := hp 14 (by kernel_rfl)
              obtain ⟨bb6, hF, hM⟩ := hS
              refine eP 64 (v0 := .agg #[.int .i64 sat, .int .i64 slv]) (v := .agg #[.int .i64 sat, .int .i64 slv]) hF (by kernel_rfl) (fun _ => by kernel_rfl) rfl fun a hF => ?_
              exact ⟨bb6, ((hF.repl 41 (by kernel_rfl)).cast (by kernel_rfl)), (hM.cast (by kernel_rfl))⟩
            · intro s0 s1 s2 s3 s4 s5 s6 s7 s8 s9 s10 s11 s12 s13 s14 s15 s16 s17 s18 s19 s20 s21 hc hi hp a w hS
              obtain rfl : s17 = false := hi
              obtain rfl : s14 = true := hp 14 (by kernel_rfl)
              obtain ⟨bb6, hF, hM⟩ := hS
              refine eP 65 (v0 := .int .i64 see) (v := .int .i64 see) hF (by kernel_rfl) (fun _ => by kernel_rfl) rfl fun a hF => ?_
              exact ⟨bb6, ((hF.repl 42 (by kernel_rfl)).cast (by kernel_rfl)), (hM.cast (by kernel_rfl))⟩
            · intro s0 s1 s2 s3 s4 s5 s6 s7 s8 s9 s10 s11 s12 s13 s14 s15 s16 s17 s18 s19 s20 s21 hc hi hp a w hS
              obtain rfl : s18 = false := hi
              obtain rfl : s20 = false := hc.f 20 18 (by kernel_rfl) rfl
              obtain ⟨bb6, hF, hM⟩ := hS
              refine eN 15 11 (t := 40) (fun b => .pointer (some ⟨b, 0, none⟩)) #[.int .i64 0, .int .i64 0] hF hM (by kernel_rfl) (fun _ => by kernel_rfl) fun bb6 a w hF hM => ?_
              exact ⟨bb6, ((hF.repl 9 (by kernel_rfl)).cast (by kernel_rfl)), ((hM.repl 8 (by kernel_rfl)).cast (by kernel_rfl))⟩
            · intro s0 s1 s2 s3 s4 s5 s6 s7 s8 s9 s10 s11 s12 s13 s14 s15 s16 s17 s18 s19 s20 s21 hc hi hp a w hS
              obtain rfl : s19 = false := hi
              obtain rfl : s15 = true := hp 15 (by kernel_rfl)
              obtain ⟨bb6, hF, hM⟩ := hS
              refine eP 14 (v0 := .int .i64 sst) (v := .int .i64 sst) hF (by kernel_rfl) (fun _ => by kernel_rfl) rfl fun a hF => ?_
              exact ⟨bb6, ((hF.repl 8 (by kernel_rfl)).cast (by kernel_rfl)), (hM.cast (by kernel_rfl))⟩
            · intro s0 s1 s2 s3 s4 s5 s6 s7 s8 s9 s10 s11 s12 s13 s14 s15 s16 s17 s18 s19 s20 s21 hc hi hp a w hS
              obtain rfl : s20 = false := hi
              obtain rfl : s18 = true := hp 18 (by kernel_rfl)
              obtain rfl : s16 = true := hp 16 (by kernel_rfl)
              obtain ⟨bb6, hF, hM⟩ := hS
              refine sStore (i := 11) (off := 0) (cs' := #[.int .i64 sat, .int .i64 slv]) hF hM (by kernel_rfl) rfl rfl (by kernel_rfl) (by kernel_rfl) rfl (by kernel_rfl) fun w hM => ?_
              exact ⟨bb6, (hF.cast (by kernel_rfl)), ((hM.repl 8 (by kernel_rfl)).cast (by kernel_rfl))⟩
            · intro s0 s1 s2 s3 s4 s5 s6 s7 s8 s9 s10 s11 s12 s13 s14 s15 s16 s17 s18 s19 s20 s21 hc hi hp a w hS
              obtain rfl : s21 = false := hi
              obtain rfl : s17 = true := hp 17 (by kernel_rfl)
              obtain ⟨bb6, hF, hM⟩ := hS
              refine eP 16 (v0 := .int .i64 see) (v := .int .i64 see) hF (by kernel_rfl) (fun _ => by kernel_rfl) rfl fun a hF => ?_
              exact ⟨bb6, ((hF.repl 10 (by kernel_rfl)).cast (by kernel_rfl)), (hM.cast (by kernel_rfl))⟩
          · intro a w hS
            obtain ⟨bb6, hF, hM⟩ := hS
            replace hF : Fr 196 [(2, some (.slice Fa free.length cf)), (7, some (.pointer (some ⟨bb4, 0, none⟩))), (8, some (.slice AA3 lcr.length cc3)), (9, some (.slice G1 k c1)), (10, some (.slice G2 k c2)), (11, some (.pointer (some ⟨bb5, 0, none⟩))), (12, some (.int .i64 (k : Int))), (13, some (.int .i64 (nt free k * 16))), (14, some (.int .i64 sst)), (15, some (.pointer (some ⟨bb6, 0, none⟩))), (16, some (.int .i64 see)), (32, some (.int .i64 (k : Int))), (33, some (.slice AA3 lcr.length cc3)), (34, some (.int .i64 (lcr.length : Int))), (35, some (.bool true)), (38, some (.int .i64 (k : Int))), (39, some (.slice Fa free.length cf)), (40, some (.int .i64 (free.length : Int))), (41, some (.bool true)), (42, some (.slice Fa free.length cf)), (43, some (.int .i64 (k : Int))), (44, some (.pointer (some (ea Fa (k))))), (45, some (.int .u16 (nt free k))), (46, some (.int .i64 (nt free k))), (47, some (.int .i64 (nt free k * 16))), (48, some (.tuple #[.int .i64 sst, .agg #[.int .i64 sat, .int .i64 slv], .int .i64 see])), (49, some (.agg #[.int .i64 srt, .int .i64 spr])), (50, some (.agg #[.int .i64 aa, .int .i64 bl])), (51, some (.slice AA3 lcr.length cc3)), (52, some (.int .i64 (k : Int))), (53, some (.pointer (some (ea AA3 (k * 2))))), (54, some (.pointer (some (ea AA3 (k * 2))))), (55, some (.int .i64 (pr lcr k).1)), (56, some (.int .i64 (nt free k * 16))), (57, some (.slice AA3 lcr.length cc3)), (58, some (.int .i64 (k : Int))), (59, some (.pointer (some (ea AA3 (k * 2))))), (60, some (.pointer (some (ea AA3 (k * 2 + 1))))), (61, some (.int .i64 (pr lcr k).2)), (62, some (.tuple #[.int .i64 sst, .agg #[.int .i64 sat, .int .i64 slv], .int .i64 see])), (63, some (.int .i64 sst)), (64, some (.agg #[.int .i64 sat, .int .i64 slv])), (65, some (.int .i64 see))] a := hF.cast (by kernel_rfl)
            replace hM : Mem w0.heap.size w0 [(1, some (.ro Ga (gaps.map (Value.int .u16)))), (2, some (.ro Sa (sizes.map (Value.int .u16)))), (3, some (.ro Fa (free.map (Value.int .u16)))), (6, some (.own (.slice AA3 lcr.length cc3) 57 2 lcr.length (flat2 lcr))), (7, some (.row bb4 23 #[.int .i64 srt, .int .i64 spr])), (8, some (.row bb5 40 #[.int .i64 aa, .int .i64 bl])), (9, some (.own (.slice G1 k c1) 3 1 k (SS.map (Value.int .i64)))), (10, some (.own (.slice G2 k c2) 3 1 k (LL.map (Value.int .i64)))), (11, some (.row bb6 40 #[.int .i64 sat, .int .i64 slv]))] w := hM.cast (by kernel_rfl)
            refine hK16 _ _ ?_
            refine wp_seq_k fun K17 hK17 => ?_
            refine wp_seq_k fun K18 hK18 => ?_
            refine wp_region_lit ?_
            refine sB 2 [(66, .int .i64 see), (67, .bool (!decide (see = 0)))] hF (by kernel_rfl) fun a hF => ?_
            refine wpList_nil ?_
            refine hK18 _ _ ?_
            by_cases hz7 : see = 0
            · skip
              replace hF := hF.c hF (i := 67) (v := .bool false) rfl (nT hz7)
              refine cF hF (by kernel_rfl) (by kernel_rfl) ?_
              refine wp_skip ?_
              refine hK17 _ _ ?_
              refine wp_seq_k fun K19 hK19 => ?_
              have hse : see = 0 := by omega
              have hcs := cst_ok (e_see.symm.trans hse)
              rw [← e_sst, ← e_sat, ← e_slv] at hcs
              have hstn : stateB sat slv = true := by rw [hcs.2.1, hcs.2.2]; exact cst_state (free := nt free k * 16) hslo hSh.st htim hfre hprk.2.2.1 hprk.2.2.2 (e_see.symm.trans hse)
              have hsf := step_facts (free := nt free k * 16) (slopeB_of hslo) hSh.st htim hfre hprk.2.2.1 hprk.2.2.2
              have hnx := hSh.next (f := nt free k * 16) (t := (pr lcr k).1) (s := (pr lcr k).2) (pr_some (by omega)) (slopeB_of hslo) htim hfre hprk.2.2.1 hprk.2.2.2 (by rw [← hcs.2.1, ← hcs.2.2]; exact hstn)
              have hlev : startLevel srt aa bl (pr lcr k).1 (nt free k * 16) = slv - (srt * spr - 1048576) * (pr lcr k).2 := by rw [hcs.2.2, stepLevel_eq]; omega
              rw [hlev, ← hcs.1, ← hcs.2.1, ← hcs.2.2] at hsf hnx
              have hstb := stateB_iff.1 hstn
              refine rQ hM (by kernel_rfl) (by kernel_rfl) ?_
              refine eQ 70 (v0 := .pointer (some ⟨bb6, 1, none⟩)) (v := .pointer (some ⟨bb6, 1, none⟩)) hF (by kernel_rfl) (fun _ => by kernel_rfl) rfl fun a hF => ?_
              refine eQL 71 11 1 (v := .int .i64 slv) hF (by kernel_rfl) rfl rfl (by kernel_rfl) (by kernel_rfl) fun a hF => ?_
              refine eQ 72 (v0 := .pointer (some ⟨bb4, 0, none⟩)) (v := .pointer (some ⟨bb4, 0, none⟩)) hF (by kernel_rfl) (fun _ => by kernel_rfl) rfl fun a hF => ?_
              refine eQL 73 7 0 (v := .int .i64 srt) hF (by kernel_rfl) rfl rfl (by kernel_rfl) (by kernel_rfl) fun a hF => ?_
              refine eQ 74 (v0 := .pointer (some ⟨bb4, 1, none⟩)) (v := .pointer (some ⟨bb4, 1, none⟩)) hF (by kernel_rfl) (fun _ => by kernel_rfl) rfl fun a hF => ?_
              refine eQL 75 7 1 (v := .int .i64 spr) hF (by kernel_rfl) rfl rfl (by kernel_rfl) (by kernel_rfl) fun a hF => ?_
              have hz8 : 1 ≤ srt * spr ∧ srt * spr ≤ 1048575000 := mul_bd (1) (1048575) (1) (1000) (by omega) (by omega) (by omega) (by omega) (by decide)
              refine eQ 76 (v0 := .int .i64 (IntKind.i64.wrap (srt * spr))) (v := .int .i64 (srt * spr)) hF (by kernel_rfl) (fun _ => by kernel_rfl) (wi (by omega)) fun a hF => ?_
              refine eQ 77 (v0 := .int .i64 (IntKind.i64.wrap (srt * spr - 1048576))) (v := .int .i64 (srt * spr - 1048576)) hF (by kernel_rfl) (fun _ => by kernel_rfl) (wi (by omega)) fun a hF => ?_
              refine eQ 78 (v0 := .slice AA3 lcr.length cc3) (v := .slice AA3 lcr.length cc3) hF (by kernel_rfl) (fun _ => by kernel_rfl) rfl fun a hF => ?_
              refine eQ 79 (v0 := .int .i64 (k : Int)) (v := .int .i64 (k : Int)) hF (by kernel_rfl) (fun _ => by kernel_rfl) rfl fun a hF => ?_
              refine eQ2 80 (v := .pointer (some (ea AA3 (k * 2)))) hF (by kernel_rfl) (yld_ix (kd := .i64) (e := 57) (len := lcr.length) (cap := cc3) (i := (k : Int)) (size := 2) (A := AA3) hF rfl (by kernel_rfl) (by kernel_rfl) (by kernel_rfl) (by kernel_rfl) (by kernel_rfl) (roO 6 rfl) (by omega) (by omega) (by rw [flat2_length]; omega)) fun a hF => ?_
              refine eQ 81 (v0 := .pointer (some (ea AA3 (k * 2 + 1)))) (v := .pointer (some (ea AA3 (k * 2 + 1)))) hF (by kernel_rfl) (fun _ => by kernel_rfl) rfl fun a hF => ?_
              refine eQ2 82 (v := .int .i64 (pr lcr k).2) hF (by kernel_rfl) (yld_ro1 (A := AA3) (j := k * 2 + 1) hF rfl (by kernel_rfl) (by kernel_rfl) (roO 6 rfl) (by kernel_rfl) (pr_snd (k := k) (by omega) (by omega))) fun a hF => ?_
              refine eQ 83 (v0 := .int .i64 (IntKind.i64.wrap ((srt * spr - 1048576) * (pr lcr k).2))) (v := .int .i64 ((srt * spr - 1048576) * (pr lcr k).2)) hF (by kernel_rfl) (fun _ => by kernel_rfl) (wi (by omega)) fun a hF => ?_
              refine eQ 84 (v0 := .int .i64 (IntKind.i64.wrap (slv - (srt * spr - 1048576) * (pr lcr k).2))) (v := .int .i64 (slv - (srt * spr - 1048576) * (pr lcr k).2)) hF (by kernel_rfl) (fun _ => by kernel_rfl) (wi (by omega)) fun a hF => ?_
              refine eQ 17 (v0 := .int .i64 (slv - (srt * spr - 1048576) * (pr lcr k).2)) (v := .int .i64 (slv - (srt * spr - 1048576) * (pr lcr k).2)) hF (by kernel_rfl) (fun _ => by kernel_rfl) rfl fun a hF => ?_
              refine wpQuiet_nil ?_
              intro w hM
              refine hK19 _ _ ?_
              refine wp_seq_k fun K20 hK20 => ?_
              refine wp_seq_k fun K21 hK21 => ?_
              refine rQ hM (by kernel_rfl) (by kernel_rfl) ?_
              refine eQ 85 (v0 := .int .i64 (slv - (srt * spr - 1048576) * (pr lcr k).2)) (v := .int .i64 (slv - (srt * spr - 1048576) * (pr lcr k).2)) hF (by kernel_rfl) (fun _ => by kernel_rfl) rfl fun a hF => ?_
              refine eQ 86 (v0 := .bool (decide (slv - (srt * spr - 1048576) * (pr lcr k).2 < 0))) (v := .bool false) hF (by kernel_rfl) (fun _ => by kernel_rfl) (bF (by omega)) fun a hF => ?_
              refine eQ 87 (v0 := .bool false) (v := .bool false) hF (by kernel_rfl) (fun _ => by kernel_rfl) rfl fun a hF => ?_
              refine eQ 88 (v0 := .pointer (some ⟨bb6, 1, none⟩)) (v := .pointer (some ⟨bb6, 1, none⟩)) hF (by kernel_rfl) (fun _ => by kernel_rfl) rfl fun a hF => ?_
              refine eQL 89 11 1 (v := .int .i64 slv) hF (by kernel_rfl) rfl rfl (by kernel_rfl) (by kernel_rfl) fun a hF => ?_
              refine eQ 90 (v0 := .slice AA3 lcr.length cc3) (v := .slice AA3 lcr.length cc3) hF (by kernel_rfl) (fun _ => by kernel_rfl) rfl fun a hF => ?_
              refine eQ 91 (v0 := .int .i64 (k : Int)) (v := .int .i64 (k : Int)) hF (by kernel_rfl) (fun _ => by kernel_rfl) rfl fun a hF => ?_
              refine eQ2 92 (v := .pointer (some (ea AA3 (k * 2)))) hF (by kernel_rfl) (yld_ix (kd := .i64) (e := 57) (len := lcr.length) (cap := cc3) (i := (k : Int)) (size := 2) (A := AA3) hF rfl (by kernel_rfl) (by kernel_rfl) (by kernel_rfl) (by kernel_rfl) (by kernel_rfl) (roO 6 rfl) (by omega) (by omega) (by rw [flat2_length]; omega)) fun a hF => ?_
              refine eQ 93 (v0 := .pointer (some (ea AA3 (k * 2 + 1)))) (v := .pointer (some (ea AA3 (k * 2 + 1)))) hF (by kernel_rfl) (fun _ => by kernel_rfl) rfl fun a hF => ?_
              refine eQ2 94 (v := .int .i64 (pr lcr k).2) hF (by kernel_rfl) (yld_ro1 (A := AA3) (j := k * 2 + 1) hF rfl (by kernel_rfl) (by kernel_rfl) (roO 6 rfl) (by kernel_rfl) (pr_snd (k := k) (by omega) (by omega))) fun a hF => ?_
              refine eQ 95 (v0 := .int .i64 (IntKind.i64.wrap (-1048576 * (pr lcr k).2))) (v := .int .i64 (-1048576 * (pr lcr k).2)) hF (by kernel_rfl) (fun _ => by kernel_rfl) (wi (by omega)) fun a hF => ?_
              refine eQ 96 (v0 := .bool (decide (slv ≤ -1048576 * (pr lcr k).2))) (v := .bool false) hF (by kernel_rfl) (fun _ => by kernel_rfl) (bF (by omega)) fun a hF => ?_
              refine eQ 97 (v0 := .bool false) (v := .bool false) hF (by kernel_rfl) (fun _ => by kernel_rfl) rfl fun a hF => ?_
              refine eQ 98 (v0 := .bool false) (v := .bool false) hF (by kernel_rfl) (fun _ => by kernel_rfl) rfl fun a hF => ?_
              refine eQ 99 (v0 := .pointer (some ⟨bb6, 0, none⟩)) (v := .pointer (some ⟨bb6, 0, none⟩)) hF (by kernel_rfl) (fun _ => by kernel_rfl) rfl fun a hF => ?_
              refine eQL 100 11 0 (v := .int .i64 sat) hF (by kernel_rfl) rfl rfl (by kernel_rfl) (by kernel_rfl) fun a hF => ?_
              refine eQ 101 (v0 := .int .i64 sst) (v := .int .i64 sst) hF (by kernel_rfl) (fun _ => by kernel_rfl) rfl fun a hF => ?_
              refine eQ 102 (v0 := .slice AA3 lcr.length cc3) (v := .slice AA3 lcr.length cc3) hF (by kernel_rfl) (fun _ => by kernel_rfl) rfl fun a hF => ?_
              refine eQ 103 (v0 := .int .i64 (k : Int)) (v := .int .i64 (k : Int)) hF (by kernel_rfl) (fun _ => by kernel_rfl) rfl fun a hF => ?_
              refine eQ2 104 (v := .pointer (some (ea AA3 (k * 2)))) hF (by kernel_rfl) (yld_ix (kd := .i64) (e := 57) (len := lcr.length) (cap := cc3) (i := (k : Int)) (size := 2) (A := AA3) hF rfl (by kernel_rfl) (by kernel_rfl) (by kernel_rfl) (by kernel_rfl) (by kernel_rfl) (roO 6 rfl) (by omega) (by omega) (by rw [flat2_length]; omega)) fun a hF => ?_
              refine eQ 105 (v0 := .pointer (some (ea AA3 (k * 2 + 1)))) (v := .pointer (some (ea AA3 (k * 2 + 1)))) hF (by kernel_rfl) (fun _ => by kernel_rfl) rfl fun a hF => ?_
              refine eQ2 106 (v := .int .i64 (pr lcr k).2) hF (by kernel_rfl) (yld_ro1 (A := AA3) (j := k * 2 + 1) hF rfl (by kernel_rfl) (by kernel_rfl) (roO 6 rfl) (by kernel_rfl) (pr_snd (k := k) (by omega) (by omega))) fun a hF => ?_
              refine eQ 107 (v0 := .pointer (some ⟨bb4, 1, none⟩)) (v := .pointer (some ⟨bb4, 1, none⟩)) hF (by kernel_rfl) (fun _ => by kernel_rfl) rfl fun a hF => ?_
              refine eQL 108 7 1 (v := .int .i64 spr) hF (by kernel_rfl) rfl rfl (by kernel_rfl) (by kernel_rfl) fun a hF => ?_
              refine eQ 109 (v0 := .int .i64 (IntKind.i64.wrap ((pr lcr k).2 * spr))) (v := .int .i64 ((pr lcr k).2 * spr)) hF (by kernel_rfl) (fun _ => by kernel_rfl) (wi (by omega)) fun a hF => ?_
              refine eQ 110 (v0 := .int .i64 (IntKind.i64.wrap (sst + (pr lcr k).2 * spr))) (v := .int .i64 (sst + (pr lcr k).2 * spr)) hF (by kernel_rfl) (fun _ => by kernel_rfl) (wi (by omega)) fun a hF => ?_
              refine eQ 111 (v0 := .bool (!decide (sat = sst + (pr lcr k).2 * spr))) (v := .bool false) hF (by kernel_rfl) (fun _ => by kernel_rfl) (nT (by omega)) fun a hF => ?_
              refine eQ 112 (v0 := .bool false) (v := .bool false) hF (by kernel_rfl) (fun _ => by kernel_rfl) rfl fun a hF => ?_
              refine eQ 113 (v0 := .bool false) (v := .bool false) hF (by kernel_rfl) (fun _ => by kernel_rfl) rfl fun a hF => ?_
              refine eQ 114 (v0 := .int .i64 sst) (v := .int .i64 sst) hF (by kernel_rfl) (fun _ => by kernel_rfl) rfl fun a hF => ?_
              refine eQ 115 (v0 := .int .i64 (nt free k * 16)) (v := .int .i64 (nt free k * 16)) hF (by kernel_rfl) (fun _ => by kernel_rfl) rfl fun a hF => ?_
              refine eQ 116 (v0 := .slice AA3 lcr.length cc3) (v := .slice AA3 lcr.length cc3) hF (by kernel_rfl) (fun _ => by kernel_rfl) rfl fun a hF => ?_
              refine eQ 117 (v0 := .int .i64 (k : Int)) (v := .int .i64 (k : Int)) hF (by kernel_rfl) (fun _ => by kernel_rfl) rfl fun a hF => ?_
              refine eQ2 118 (v := .pointer (some (ea AA3 (k * 2)))) hF (by kernel_rfl) (yld_ix (kd := .i64) (e := 57) (len := lcr.length) (cap := cc3) (i := (k : Int)) (size := 2) (A := AA3) hF rfl (by kernel_rfl) (by kernel_rfl) (by kernel_rfl) (by kernel_rfl) (by kernel_rfl) (roO 6 rfl) (by omega) (by omega) (by rw [flat2_length]; omega)) fun a hF => ?_
              refine eQ 119 (v0 := .pointer (some (ea AA3 (k * 2)))) (v := .pointer (some (ea AA3 (k * 2)))) hF (by kernel_rfl) (fun _ => by kernel_rfl) rfl fun a hF => ?_
              refine eQ2 120 (v := .int .i64 (pr lcr k).1) hF (by kernel_rfl) (yld_ro1 (A := AA3) (j := k * 2) hF rfl (by kernel_rfl) (by kernel_rfl) (roO 6 rfl) (by kernel_rfl) (pr_fst (k := k) (by omega) (by omega))) fun a hF => ?_
              refine eQ 121 (v0 := .pointer (some ⟨bb5, 0, none⟩)) (v := .pointer (some ⟨bb5, 0, none⟩)) hF (by kernel_rfl) (fun _ => by kernel_rfl) rfl fun a hF => ?_
              refine eQL 122 8 0 (v := .int .i64 aa) hF (by kernel_rfl) rfl rfl (by kernel_rfl) (by kernel_rfl) fun a hF => ?_
              refine eQ 123 (v0 := .int .i64 (if aa > (pr lcr k).1 then aa else (pr lcr k).1)) (v := .int .i64 (max (pr lcr k).1 aa)) hF (by kernel_rfl) (fun _ => by kernel_rfl) (vi (max_if _ _)) fun a hF => ?_
              refine eQ 124 (v0 := .int .i64 (if max (pr lcr k).1 aa > nt free k * 16 then max (pr lcr k).1 aa else nt free k * 16)) (v := .int .i64 (max (nt free k * 16) (max (pr lcr k).1 aa))) hF (by kernel_rfl) (fun _ => by kernel_rfl) (vi (max_if _ _)) fun a hF => ?_
              refine eQ 125 (v0 := .bool (decide (sst < max (nt free k * 16) (max (pr lcr k).1 aa)))) (v := .bool false) hF (by kernel_rfl) (fun _ => by kernel_rfl) (bF (by omega)) fun a hF => ?_
              refine eQ 126 (v0 := .bool false) (v := .bool false) hF (by kernel_rfl) (fun _ => by kernel_rfl) rfl fun a hF => ?_
              refine wpQuiet_nil ?_
              intro w hM
              refine hK21 _ _ ?_
              refine cF hF (by kernel_rfl) (by kernel_rfl) ?_
              refine wp_skip ?_
              refine hK20 _ _ ?_
              refine wp_seq_k fun K22 hK22 => ?_
              refine wp_seq_k fun K23 hK23 => ?_
              by_cases hz9 : max (nt free k * 16) (max (pr lcr k).1 aa) < sst
              · skip
                refine rQ hM (by kernel_rfl) (by kernel_rfl) ?_
                refine eQ 127 (v0 := .int .i64 sst) (v := .int .i64 sst) hF (by kernel_rfl) (fun _ => by kernel_rfl) rfl fun a hF => ?_
                refine eQ 128 (v0 := .int .i64 (nt free k * 16)) (v := .int .i64 (nt free k * 16)) hF (by kernel_rfl) (fun _ => by kernel_rfl) rfl fun a hF => ?_
                refine eQ 129 (v0 := .slice AA3 lcr.length cc3) (v := .slice AA3 lcr.length cc3) hF (by kernel_rfl) (fun _ => by kernel_rfl) rfl fun a hF => ?_
                refine eQ 130 (v0 := .int .i64 (k : Int)) (v := .int .i64 (k : Int)) hF (by kernel_rfl) (fun _ => by kernel_rfl) rfl fun a hF => ?_
                refine eQ2 131 (v := .pointer (some (ea AA3 (k * 2)))) hF (by kernel_rfl) (yld_ix (kd := .i64) (e := 57) (len := lcr.length) (cap := cc3) (i := (k : Int)) (size := 2) (A := AA3) hF rfl (by kernel_rfl) (by kernel_rfl) (by kernel_rfl) (by kernel_rfl) (by kernel_rfl) (roO 6 rfl) (by omega) (by omega) (by rw [flat2_length]; omega)) fun a hF => ?_
                refine eQ 132 (v0 := .pointer (some (ea AA3 (k * 2)))) (v := .pointer (some (ea AA3 (k * 2)))) hF (by kernel_rfl) (fun _ => by kernel_rfl) rfl fun a hF => ?_
                refine eQ2 133 (v := .int .i64 (pr lcr k).1) hF (by kernel_rfl) (yld_ro1 (A := AA3) (j := k * 2) hF rfl (by kernel_rfl) (by kernel_rfl) (roO 6 rfl) (by kernel_rfl) (pr_fst (k := k) (by omega) (by omega))) fun a hF => ?_
                refine eQ 134 (v0 := .pointer (some ⟨bb5, 0, none⟩)) (v := .pointer (some ⟨bb5, 0, none⟩)) hF (by kernel_rfl) (fun _ => by kernel_rfl) rfl fun a hF => ?_
                refine eQL 135 8 0 (v := .int .i64 aa) hF (by kernel_rfl) rfl rfl (by kernel_rfl) (by kernel_rfl) fun a hF => ?_
                refine eQ 136 (v0 := .int .i64 (if aa > (pr lcr k).1 then aa else (pr lcr k).1)) (v := .int .i64 (max (pr lcr k).1 aa)) hF (by kernel_rfl) (fun _ => by kernel_rfl) (vi (max_if _ _)) fun a hF => ?_
                refine eQ 137 (v0 := .int .i64 (if max (pr lcr k).1 aa > nt free k * 16 then max (pr lcr k).1 aa else nt free k * 16)) (v := .int .i64 (max (nt free k * 16) (max (pr lcr k).1 aa))) hF (by kernel_rfl) (fun _ => by kernel_rfl) (vi (max_if _ _)) fun a hF => ?_
                refine eQ 138 (v0 := .bool (decide (max (nt free k * 16) (max (pr lcr k).1 aa) < sst))) (v := .bool true) hF (by kernel_rfl) (fun _ => by kernel_rfl) (bT hz9) fun a hF => ?_
                refine eQ 139 (v0 := .bool true) (v := .bool true) hF (by kernel_rfl) (fun _ => by kernel_rfl) rfl fun a hF => ?_
                refine eQ 140 (v0 := .int .i64 (slv - (srt * spr - 1048576) * (pr lcr k).2)) (v := .int .i64 (slv - (srt * spr - 1048576) * (pr lcr k).2)) hF (by kernel_rfl) (fun _ => by kernel_rfl) rfl fun a hF => ?_
                refine eQ 141 (v0 := .pointer (some ⟨bb4, 0, none⟩)) (v := .pointer (some ⟨bb4, 0, none⟩)) hF (by kernel_rfl) (fun _ => by kernel_rfl) rfl fun a hF => ?_
                refine eQL 142 7 0 (v := .int .i64 srt) hF (by kernel_rfl) rfl rfl (by kernel_rfl) (by kernel_rfl) fun a hF => ?_
                refine eQ 143 (v0 := .bool (decide (srt ≤ slv - (srt * spr - 1048576) * (pr lcr k).2))) (v := .bool (decide (srt ≤ slv - (srt * spr - 1048576) * (pr lcr k).2))) hF (by kernel_rfl) (fun _ => by kernel_rfl) rfl fun a hF => ?_
                refine eQ 144 (v0 := .bool (decide (srt ≤ slv - (srt * spr - 1048576) * (pr lcr k).2))) (v := .bool (decide (srt ≤ slv - (srt * spr - 1048576) * (pr lcr k).2))) hF (by kernel_rfl) (fun _ => by kernel_rfl) rfl fun a hF => ?_
                refine wpQuiet_nil ?_
                intro w hM
                refine hK23 _ _ ?_
                by_cases hz10 : srt ≤ slv - (srt * spr - 1048576) * (pr lcr k).2
                · skip
                  replace hF := hF.c hF (i := 143) (v := .bool true) rfl (bT hz10)
                  replace hF := hF.c hF (i := 144) (v := .bool true) rfl (bT hz10)
                  refine cT hF (by kernel_rfl) (by kernel_rfl) ?_
                  refine wp_seq_k fun K24 hK24 => ?_
                  refine wp_region_lit ?_
                  refine sB 1 [(6, .bool false)] hF (by kernel_rfl) fun a hF => ?_
                  refine wpList_nil ?_
                  refine hK24 _ _ ?_
                  refine wp_ret ?_
                  refine hR0 _ _ ?_
                  refine ret_of hF hM (.tmp rfl (.nil)) ?_
                  exact absurd hsf (by omega)
                · skip
                  replace hF := hF.c hF (i := 143) (v := .bool false) rfl (bF hz10)
                  replace hF := hF.c hF (i := 144) (v := .bool false) rfl (bF hz10)
                  refine cF hF (by kernel_rfl) (by kernel_rfl) ?_
                  refine wp_skip ?_
                  refine hK22 _ _ ?_
                  refine rF (by kernel_rfl) (by kernel_rfl) (fun S a w => ∃ bb7 : Nat, ∃ AA8 : Option Addr, ∃ cc8 : Nat, ∃ bb9 : Nat, ∃ AA10 : Option Addr, ∃ cc10 : Nat, Fr 196 [(2, some (.slice Fa free.length cf)), (7, some (.pointer (some ⟨bb4, 0, none⟩))), (8, some (.slice AA3 lcr.length cc3)), (9, (cond (S.getD 9 false) (some (.slice AA8 (k + 1) cc8)) (some (.slice G1 k c1)))), (10, (cond (S.getD 10 false) (some (.slice AA10 (k + 1) cc10)) (some (.slice G2 k c2)))), (11, some (.pointer (some ⟨bb5, 0, none⟩))), (12, some (.int .i64 (k : Int))), (13, some (.int .i64 (nt free k * 16))), (14, some (.int .i64 sst)), (15, some (.pointer (some ⟨bb6, 0, none⟩))), (16, some (.int .i64 see)), (17, some (.int .i64 (slv - (srt * spr - 1048576) * (pr lcr k).2))), (32, some (.int .i64 (k : Int))), (33, some (.slice AA3 lcr.length cc3)), (34, some (.int .i64 (lcr.length : Int))), (35, some (.bool true)), (38, some (.int .i64 (k : Int))), (39, some (.slice Fa free.length cf)), (40, some (.int .i64 (free.length : Int))), (41, some (.bool true)), (42, some (.slice Fa free.length cf)), (43, some (.int .i64 (k : Int))), (44, some (.pointer (some (ea Fa (k))))), (45, some (.int .u16 (nt free k))), (46, some (.int .i64 (nt free k))), (47, some (.int .i64 (nt free k * 16))), (48, some (.tuple #[.int .i64 sst, .agg #[.int .i64 sat, .int .i64 slv], .int .i64 see])), (49, some (.agg #[.int .i64 srt, .int .i64 spr])), (50, some (.agg #[.int .i64 aa, .int .i64 bl])), (51, some (.slice AA3 lcr.length cc3)), (52, some (.int .i64 (k : Int))), (53, some (.pointer (some (ea AA3 (k * 2))))), (54, some (.pointer (some (ea AA3 (k * 2))))), (55, some (.int .i64 (pr lcr k).1)), (56, some (.int .i64 (nt free k * 16))), (57, some (.slice AA3 lcr.length cc3)), (58, some (.int .i64 (k : Int))), (59, some (.pointer (some (ea AA3 (k * 2))))), (60, some (.pointer (some (ea AA3 (k * 2 + 1))))), (61, some (.int .i64 (pr lcr k).2)), (62, some (.tuple #[.int .i64 sst, .agg #[.int .i64 sat, .int .i64 slv], .int .i64 see])), (63, some (.int .i64 sst)), (64, some (.agg #[.int .i64 sat, .int .i64 slv])), (65, some (.int .i64 see)), (66, some (.int .i64 see)), (67, some (.bool false)), (70, some (.pointer (some ⟨bb6, 1, none⟩))), (71, some (.int .i64 slv)), (72, some (.pointer (some ⟨bb4, 0, none⟩))), (73, some (.int .i64 srt)), (74, some (.pointer (some ⟨bb4, 1, none⟩))), (75, some (.int .i64 spr)), (76, some (.int .i64 (srt * spr))), (77, some (.int .i64 (srt * spr - 1048576))), (78, some (.slice AA3 lcr.length cc3)), (79, some (.int .i64 (k : Int))), (80, some (.pointer (some (ea AA3 (k * 2))))), (81, some (.pointer (some (ea AA3 (k * 2 + 1))))), (82, some (.int .i64 (pr lcr k).2)), (83, some (.int .i64 ((srt * spr - 1048576) * (pr lcr k).2))), (84, some (.int .i64 (slv - (srt * spr - 1048576) * (pr lcr k).2))), (85, some (.int .i64 (slv - (srt * spr - 1048576) * (pr lcr k).2))), (86, some (.bool false)), (87, some (.bool false)), (88, some (.pointer (some ⟨bb6, 1, none⟩))), (89, some (.int .i64 slv)), (90, some (.slice AA3 lcr.length cc3)), (91, some (.int .i64 (k : Int))), (92, some (.pointer (some (ea AA3 (k * 2))))), (93, some (.pointer (some (ea AA3 (k * 2 + 1))))), (94, some (.int .i64 (pr lcr k).2)), (95, some (.int .i64 (-1048576 * (pr lcr k).2))), (96, some (.bool false)), (97, some (.bool false)), (98, some (.bool false)), (99, some (.pointer (some ⟨bb6, 0, none⟩))), (100, some (.int .i64 sat)), (101, some (.int .i64 sst)), (102, some (.slice AA3 lcr.length cc3)), (103, some (.int .i64 (k : Int))), (104, some (.pointer (some (ea AA3 (k * 2))))), (105, some (.pointer (some (ea AA3 (k * 2 + 1))))), (106, some (.int .i64 (pr lcr k).2)), (107, some (.pointer (some ⟨bb4, 1, none⟩))), (108, some (.int .i64 spr)), (109, some (.int .i64 ((pr lcr k).2 * spr))), (110, some (.int .i64 (sst + (pr lcr k).2 * spr))), (111, some (.bool false)), (112, some (.bool false)), (113, some (.bool false)), (114, some (.int .i64 sst)), (115, some (.int .i64 (nt free k * 16))), (116, some (.slice AA3 lcr.length cc3)), (117, some (.int .i64 (k : Int))), (118, some (.pointer (some (ea AA3 (k * 2))))), (119, some (.pointer (some (ea AA3 (k * 2))))), (120, some (.int .i64 (pr lcr k).1)), (121, some (.pointer (some ⟨bb5, 0, none⟩))), (122, some (.int .i64 aa)), (123, some (.int .i64 (max (pr lcr k).1 aa))), (124, some (.int .i64 (max (nt free k * 16) (max (pr lcr k).1 aa)))), (125, some (.bool false)), (126, some (.bool false)), (127, some (.int .i64 sst)), (128, some (.int .i64 (nt free k * 16))), (129, some (.slice AA3 lcr.length cc3)), (130, some (.int .i64 (k : Int))), (131, some (.pointer (some (ea AA3 (k * 2))))), (132, some (.pointer (some (ea AA3 (k * 2))))), (133, some (.int .i64 (pr lcr k).1)), (134, some (.pointer (some ⟨bb5, 0, none⟩))), (135, some (.int .i64 aa)), (136, some (.int .i64 (max (pr lcr k).1 aa))), (137, some (.int .i64 (max (nt free k * 16) (max (pr lcr k).1 aa)))), (138, some (.bool true)), (139, some (.bool true)), (140, some (.int .i64 (slv - (srt * spr - 1048576) * (pr lcr k).2))), (141, some (.pointer (some ⟨bb4, 0, none⟩))), (142, some (.int .i64 srt)), (143, some (.bool false)), (144, some (.bool false)), (145, (cond (S.getD 0 false) (some (.slice G1 k c1)) none)), (146, (cond (S.getD 1 false) (some (.int .i64 sst)) none)), (147, (cond (S.getD 2 false) (some (.slice (some ⟨bb7, 0, none⟩) 1 1)) none)), (148, (cond (S.getD 3 false) (some (.slice AA8 (k + 1) cc8)) none)), (149, (cond (S.getD 4 false) (some (.slice G2 k c2)) none)), (150, (cond (S.getD 5 false) (some (.int .i64 (slv - (srt * spr - 1048576) * (pr lcr k).2))) none)), (151, (cond (S.getD 6 false) (some (.slice (some ⟨bb9, 0, none⟩) 1 1)) none)), (152, (cond (S.getD 7 false) (some (.slice AA10 (k + 1) cc10)) none)), (153, (cond (S.getD 8 false) (some (.agg #[.int .i64 sat, .int .i64 slv])) none))] a ∧ Mem w0.heap.size w0 [(1, some (.ro Ga (gaps.map (Value.int .u16)))), (2, some (.ro Sa (sizes.map (Value.int .u16)))), (3, some (.ro Fa (free.map (Value.int .u16)))), (6, some (.own (.slice AA3 lcr.length cc3) 57 2 lcr.length (flat2 lcr))), (7, some (.row bb4 23 #[.int .i64 srt, .int .i64 spr])), (8, (cond (S.getD 11 false) (some (.row bb5 40 #[.int .i64 sat, .int .i64 slv])) (some (.row bb5 40 #[.int .i64 aa, .int .i64 bl])))), (9, (cond (S.getD 3 false) (some (.own (.slice AA8 (k + 1) cc8) 3 1 (k + 1) ((SS ++ [sst]).map (Value.int .i64)))) (some (.own (.slice G1 k c1) 3 1 k (SS.map (Value.int .i64)))))), (10, (cond (S.getD 7 false) (some (.own (.slice AA10 (k + 1) cc10) 3 1 (k + 1) ((LL ++ [slv - (srt * spr - 1048576) * (pr lcr k).2]).map (Value.int .i64)))) (some (.own (.slice G2 k c2) 3 1 k (LL.map (Value.int .i64)))))), (11, some (.row bb6 40 #[.int .i64 sat, .int .i64 slv])), (12, (cond (S.getD 2 false) (some (.row bb7 3 #[.int .i64 sst])) none)), (13, (cond (S.getD 6 false) (some (.row bb9 3 #[.int .i64 (slv - (srt * spr - 1048576) * (pr lcr k).2)])) none))] w) ?_ ?_ ?_
                  · exact ⟨0, none, 0, 0, none, 0, (((((((((((((((((((((((((((((((((((((((((((((((((((((((((((((((((((((((((((((((((((((((((((((((((((((((((((((((((((((((((((((((((((Fr.nil hF).co hF (i := 153) (by kernel_rfl)).co hF (i := 152) (by kernel_rfl)).co hF (i := 151) (by kernel_rfl)).co hF (i := 150) (by kernel_rfl)).co hF (i := 149) (by kernel_rfl)).co hF (i := 148) (by kernel_rfl)).co hF (i := 147) (by kernel_rfl)).co hF (i := 146) (by kernel_rfl)).co hF (i := 145) (by kernel_rfl)).co hF (i := 144) (by kernel_rfl)).co hF (i := 143) (by kernel_rfl)).co hF (i := 142) (by kernel_rfl)).co hF (i := 141) (by kernel_rfl)).co hF (i := 140) (by kernel_rfl)).co hF (i := 139) (by kernel_rfl)).co hF (i := 138) (by kernel_rfl)).co hF (i := 137) (by kernel_rfl)).co hF (i := 136) (by kernel_rfl)).co hF (i := 135) (by kernel_rfl)).co hF (i := 134) (by kernel_rfl)).co hF (i := 133) (by kernel_rfl)).co hF (i := 132) (by kernel_rfl)).co hF (i := 131) (by kernel_rfl)).co hF (i := 130) (by kernel_rfl)).co hF (i := 129) (by kernel_rfl)).co hF (i := 128) (by kernel_rfl)).co hF (i := 127) (by kernel_rfl)).co hF (i := 126) (by kernel_rfl)).co hF (i := 125) (by kernel_rfl)).co hF (i := 124) (by kernel_rfl)).co hF (i := 123) (by kernel_rfl)).co hF (i := 122) (by kernel_rfl)).co hF (i := 121) (by kernel_rfl)).co hF (i := 120) (by kernel_rfl)).co hF (i := 119) (by kernel_rfl)).co hF (i := 118) (by kernel_rfl)).co hF (i := 117) (by kernel_rfl)).co hF (i := 116) (by kernel_rfl)).co hF (i := 115) (by kernel_rfl)).co hF (i := 114) (by kernel_rfl)).co hF (i := 113) (by kernel_rfl)).co hF (i := 112) (by kernel_rfl)).co hF (i := 111) (by kernel_rfl)).co hF (i := 110) (by kernel_rfl)).co hF (i := 109) (by kernel_rfl)).co hF (i := 108) (by kernel_rfl)).co hF (i := 107) (by kernel_rfl)).co hF (i := 106) (by kernel_rfl)).co hF (i := 105) (by kernel_rfl)).co hF (i := 104) (by kernel_rfl)).co hF (i := 103) (by kernel_rfl)).co hF (i := 102) (by kernel_rfl)).co hF (i := 101) (by kernel_rfl)).co hF (i := 100) (by kernel_rfl)).co hF (i := 99) (by kernel_rfl)).co hF (i := 98) (by kernel_rfl)).co hF (i := 97) (by kernel_rfl)).co hF (i := 96) (by kernel_rfl)).co hF (i := 95) (by kernel_rfl)).co hF (i := 94) (by kernel_rfl)).co hF (i := 93) (by kernel_rfl)).co hF (i := 92) (by kernel_rfl)).co hF (i := 91) (by kernel_rfl)).co hF (i := 90) (by kernel_rfl)).co hF (i := 89) (by kernel_rfl)).co hF (i := 88) (by kernel_rfl)).co hF (i := 87) (by kernel_rfl)).co hF (i := 86) (by kernel_rfl)).co hF (i := 85) (by kernel_rfl)).co hF (i := 84) (by kernel_rfl)).co hF (i := 83) (by kernel_rfl)).co hF (i := 82) (by kernel_rfl)).co hF (i := 81) (by kernel_rfl)).co hF (i := 80) (by kernel_rfl)).co hF (i := 79) (by kernel_rfl)).co hF (i := 78) (by kernel_rfl)).co hF (i := 77) (by kernel_rfl)).co hF (i := 76) (by kernel_rfl)).co hF (i := 75) (by kernel_rfl)).co hF (i := 74) (by kernel_rfl)).co hF (i := 73) (by kernel_rfl)).co hF (i := 72) (by kernel_rfl)).co hF (i := 71) (by kernel_rfl)).co hF (i := 70) (by kernel_rfl)).co hF (i := 67) (by kernel_rfl)).co hF (i := 66) (by kernel_rfl)).co hF (i := 65) (by kernel_rfl)).co hF (i := 64) (by kernel_rfl)).co hF (i := 63) (by kernel_rfl)).co hF (i := 62) (by kernel_rfl)).co hF (i := 61) (by kernel_rfl)).co hF (i := 60) (by kernel_rfl)).co hF (i := 59) (by kernel_rfl)).co hF (i := 58) (by kernel_rfl)).co hF (i := 57) (by kernel_rfl)).co hF (i := 56) (by kernel_rfl)).co hF (i := 55) (by kernel_rfl)).co hF (i := 54) (by kernel_rfl)).co hF (i := 53) (by kernel_rfl)).co hF (i := 52) (by kernel_rfl)).co hF (i := 51) (by kernel_rfl)).co hF (i := 50) (by kernel_rfl)).co hF (i := 49) (by kernel_rfl)).co hF (i := 48) (by kernel_rfl)).co hF (i := 47) (by kernel_rfl)).co hF (i := 46) (by kernel_rfl)).co hF (i := 45) (by kernel_rfl)).co hF (i := 44) (by kernel_rfl)).co hF (i := 43) (by kernel_rfl)).co hF (i := 42) (by kernel_rfl)).co hF (i := 41) (by kernel_rfl)).co hF (i := 40) (by kernel_rfl)).co hF (i := 39) (by kernel_rfl)).co hF (i := 38) (by kernel_rfl)).co hF (i := 35) (by kernel_rfl)).co hF (i := 34) (by kernel_rfl)).co hF (i := 33) (by kernel_rfl)).co hF (i := 32) (by kernel_rfl)).co hF (i := 17) (by kernel_rfl)).co hF (i := 16) (by kernel_rfl)).co hF (i := 15) (by kernel_rfl)).co hF (i := 14) (by kernel_rfl)).co hF (i := 13) (by kernel_rfl)).co hF (i := 12) (by kernel_rfl)).co hF (i := 11) (by kernel_rfl)).co hF (i := 10) (by kernel_rfl)).co hF (i := 9) (by kernel_rfl)).co hF (i := 8) (by kernel_rfl)).co hF (i := 7) (by kernel_rfl)).co hF (i := 2) (by kernel_rfl)), hM.drew.sub (((((((((((Sub.nil.co (k := 13) (by kernel_rfl)).co (k := 12) (by kernel_rfl)).co (k := 11) (by kernel_rfl)).co (k := 10) (by kernel_rfl)).co (k := 9) (by kernel_rfl)).co (k := 8) (by kernel_rfl)).co (k := 7) (by kernel_rfl)).co (k := 6) (by kernel_rfl)).co (k := 3) (by kernel_rfl)).co (k := 2) (by kernel_rfl)).co (k := 1) (by kernel_rfl))⟩
                  · refine stC ?_ (stC ?_ (stC ?_ (stC ?_ (stC ?_ (stC ?_ (stC ?_ (stC ?_ (stC ?_ (stC ?_ (stC ?_ (stC ?_ (trivial))))))))))))
                    · intro s0 s1 s2 s3 s4 s5 s6 s7 s8 s9 s10 s11 hc hi hp a w hS
                      obtain rfl : s0 = false := hi
                      obtain rfl : s3 = false := hc.f 3 0 (by kernel_rfl) rfl
                      obtain rfl : s9 = false := hc.f 9 0 (by kernel_rfl) rfl
                      obtain ⟨bb7, AA8, cc8, bb9, AA10, cc10, hF, hM⟩ := hS
                      refine eP 145 (v0 := .slice G1 k c1) (v := .slice G1 k c1) hF (by kernel_rfl) (fun _ => by kernel_rfl) rfl fun a hF => ?_
                      exact ⟨bb7, AA8, cc8, bb9, AA10, cc10, ((hF.repl 121 (by kernel_rfl)).cast (by kernel_rfl)), (hM.cast (by kernel_rfl))⟩
                    · intro s0 s1 s2 s3 s4 s5 s6 s7 s8 s9 s10 s11 hc hi hp a w hS
                      obtain rfl : s1 = false := hi
                      obtain ⟨bb7, AA8, cc8, bb9, AA10, cc10, hF, hM⟩ := hS
                      refine eP 146 (v0 := .int .i64 sst) (v := .int .i64 sst) hF (by kernel_rfl) (fun _ => by kernel_rfl) rfl fun a hF => ?_
                      exact ⟨bb7, AA8, cc8, bb9, AA10, cc10, ((hF.repl 122 (by kernel_rfl)).cast (by kernel_rfl)), (hM.cast (by kernel_rfl))⟩
                    · intro s0 s1 s2 s3 s4 s5 s6 s7 s8 s9 s10 s11 hc hi hp a w hS
                      obtain rfl : s2 = false := hi
                      obtain rfl : s1 = true := hp 1 (by kernel_rfl)
                      obtain ⟨bb7, AA8, cc8, bb9, AA10, cc10, hF, hM⟩ := hS
                      refine eN 147 12 (t := 3) (fun b => .slice (some ⟨b, 0, none⟩) 1 1) #[.int .i64 sst] hF hM (by kernel_rfl) (fun _ => by kernel_rfl) fun bb7 a w hF hM => ?_
                      exact ⟨bb7, AA8, cc8, bb9, AA10, cc10, ((hF.repl 123 (by kernel_rfl)).cast (by kernel_rfl)), ((hM.repl 9 (by kernel_rfl)).cast (by kernel_rfl))⟩
                    · intro s0 s1 s2 s3 s4 s5 s6 s7 s8 s9 s10 s11 hc hi hp a w hS
                      obtain rfl : s3 = false := hi
                      obtain rfl : s2 = true := hp 2 (by kernel_rfl)
                      obtain rfl : s0 = true := hp 0 (by kernel_rfl)
                      obtain rfl : s9 = false := hc.f 9 3 (by kernel_rfl) rfl
                      obtain ⟨bb7, AA8, cc8, bb9, AA10, cc10, hF, hM⟩ := hS
                      refine sApp 148 9 (e := 3) (size := 1) (bytes := 8) (z := .int .i64 0) (m := 1) (c := 1) (l := k) (cap := c1) (A := G1) (news := [.int .i64 sst]) ((SS ++ [sst]).map (Value.int .i64)) hF hM (by kernel_rfl) rfl (by kernel_rfl) (by kernel_rfl) (by kernel_rfl) rfl rfl rfl rfl (roR 12 rfl) (by simp [Value.oneCell']) (by omega) (by decide) (map_snoc' _ _ _) fun AA8 cc8 a w hF hM => ?_
                      exact ⟨bb7, AA8, cc8, bb9, AA10, cc10, ((hF.repl 124 (by kernel_rfl)).cast (by kernel_rfl)), ((hM.repl 6 (by kernel_rfl)).cast (by kernel_rfl))⟩
                    · intro s0 s1 s2 s3 s4 s5 s6 s7 s8 s9 s10 s11 hc hi hp a w hS
                      obtain rfl : s4 = false := hi
                      obtain rfl : s7 = false := hc.f 7 4 (by kernel_rfl) rfl
                      obtain rfl : s10 = false := hc.f 10 4 (by kernel_rfl) rfl
                      obtain ⟨bb7, AA8, cc8, bb9, AA10, cc10, hF, hM⟩ := hS
                      refine eP 149 (v0 := .slice G2 k c2) (v := .slice G2 k c2) hF (by kernel_rfl) (fun _ => by kernel_rfl) rfl fun a hF => ?_
                      exact ⟨bb7, AA8, cc8, bb9, AA10, cc10, ((hF.repl 125 (by kernel_rfl)).cast (by kernel_rfl)), (hM.cast (by kernel_rfl))⟩
                    · intro s0 s1 s2 s3 s4 s5 s6 s7 s8 s9 s10 s11 hc hi hp a w hS
                      obtain rfl : s5 = false := hi
                      obtain ⟨bb7, AA8, cc8, bb9, AA10, cc10, hF, hM⟩ := hS
                      refine eP 150 (v0 := .int .i64 (slv - (srt * spr - 1048576) * (pr lcr k).2)) (v := .int .i64 (slv - (srt * spr - 1048576) * (pr lcr k).2)) hF (by kernel_rfl) (fun _ => by kernel_rfl) rfl fun a hF => ?_
                      exact ⟨bb7, AA8, cc8, bb9, AA10, cc10, ((hF.repl 126 (by kernel_rfl)).cast (by kernel_rfl)), (hM.cast (by kernel_rfl))⟩
                    · intro s0 s1 s2 s3 s4 s5 s6 s7 s8 s9 s10 s11 hc hi hp a w hS
                      obtain rfl : s6 = false := hi
                      obtain rfl : s5 = true := hp 5 (by kernel_rfl)
                      obtain ⟨bb7, AA8, cc8, bb9, AA10, cc10, hF, hM⟩ := hS
                      refine eN 151 13 (t := 3) (fun b => .slice (some ⟨b, 0, none⟩) 1 1) #[.int .i64 (slv - (srt * spr - 1048576) * (pr lcr k).2)] hF hM (by kernel_rfl) (fun _ => by kernel_rfl) fun bb9 a w hF hM => ?_
                      exact ⟨bb7, AA8, cc8, bb9, AA10, cc10, ((hF.repl 127 (by kernel_rfl)).cast (by kernel_rfl)), ((hM.repl 10 (by kernel_rfl)).cast (by kernel_rfl))⟩
                    · intro s0 s1 s2 s3 s4 s5 s6 s7 s8 s9 s10 s11 hc hi hp a w hS
                      obtain rfl : s7 = false := hi
                      obtain rfl : s6 = true := hp 6 (by kernel_rfl)
                      obtain rfl : s4 = true := hp 4 (by kernel_rfl)
                      obtain rfl : s10 = false := hc.f 10 7 (by kernel_rfl) rfl
                      obtain ⟨bb7, AA8, cc8, bb9, AA10, cc10, hF, hM⟩ := hS
                      refine sApp 152 10 (e := 3) (size := 1) (bytes := 8) (z := .int .i64 0) (m := 1) (c := 1) (l := k) (cap := c2) (A := G2) (news := [.int .i64 (slv - (srt * spr - 1048576) * (pr lcr k).2)]) ((LL ++ [slv - (srt * spr - 1048576) * (pr lcr k).2]).map (Value.int .i64)) hF hM (by kernel_rfl) rfl (by kernel_rfl) (by kernel_rfl) (by kernel_rfl) rfl rfl rfl rfl (roR 13 rfl) (by simp [Value.oneCell']) (by omega) (by decide) (map_snoc' _ _ _) fun AA10 cc10 a w hF hM => ?_
                      exact ⟨bb7, AA8, cc8, bb9, AA10, cc10, ((hF.repl 128 (by kernel_rfl)).cast (by kernel_rfl)), ((hM.repl 7 (by kernel_rfl)).cast (by kernel_rfl))⟩
                    · intro s0 s1 s2 s3 s4 s5 s6 s7 s8 s9 s10 s11 hc hi hp a w hS
                      obtain rfl : s8 = false := hi
                      obtain ⟨bb7, AA8, cc8, bb9, AA10, cc10, hF, hM⟩ := hS
                      refine eL 153 11 0 (v := .agg #[.int .i64 sat, .int .i64 slv]) hF hM (by kernel_rfl) rfl rfl (by kernel_rfl) (by kernel_rfl) fun a w hF hM => ?_
                      exact ⟨bb7, AA8, cc8, bb9, AA10, cc10, ((hF.repl 129 (by kernel_rfl)).cast (by kernel_rfl)), (hM.cast (by kernel_rfl))⟩
                    · intro s0 s1 s2 s3 s4 s5 s6 s7 s8 s9 s10 s11 hc hi hp a w hS
                      obtain rfl : s9 = false := hi
                      obtain rfl : s3 = true := hp 3 (by kernel_rfl)
                      obtain ⟨bb7, AA8, cc8, bb9, AA10, cc10, hF, hM⟩ := hS
                      refine eP 9 (v0 := .slice AA8 (k + 1) cc8) (v := .slice AA8 (k + 1) cc8) hF (by kernel_rfl) (fun _ => by kernel_rfl) rfl fun a hF => ?_
                      exact ⟨bb7, AA8, cc8, bb9, AA10, cc10, ((hF.repl 3 (by kernel_rfl)).cast (by kernel_rfl)), (hM.cast (by kernel_rfl))⟩
                    · intro s0 s1 s2 s3 s4 s5 s6 s7 s8 s9 s10 s11 hc hi hp a w hS
                      obtain rfl : s10 = false := hi
                      obtain rfl : s7 = true := hp 7 (by kernel_rfl)
                      obtain ⟨bb7, AA8, cc8, bb9, AA10, cc10, hF, hM⟩ := hS
                      refine eP 10 (v0 := .slice AA10 (k + 1) cc10) (v := .slice AA10 (k + 1) cc10) hF (by kernel_rfl) (fun _ => by kernel_rfl) rfl fun a hF => ?_
                      exact ⟨bb7, AA8, cc8, bb9, AA10, cc10, ((hF.repl 4 (by kernel_rfl)).cast (by kernel_rfl)), (hM.cast (by kernel_rfl))⟩
                    · intro s0 s1 s2 s3 s4 s5 s6 s7 s8 s9 s10 s11 hc hi hp a w hS
                      obtain rfl : s11 = false := hi
                      obtain rfl : s8 = true := hp 8 (by kernel_rfl)
                      obtain ⟨bb7, AA8, cc8, bb9, AA10, cc10, hF, hM⟩ := hS
                      refine sStore (i := 8) (off := 0) (cs' := #[.int .i64 sat, .int .i64 slv]) hF hM (by kernel_rfl) rfl rfl (by kernel_rfl) (by kernel_rfl) rfl (by kernel_rfl) fun w hM => ?_
                      exact ⟨bb7, AA8, cc8, bb9, AA10, cc10, (hF.cast (by kernel_rfl)), ((hM.repl 5 (by kernel_rfl)).cast (by kernel_rfl))⟩
                  · intro a w hS
                    obtain ⟨bb7, AA8, cc8, bb9, AA10, cc10, hF, hM⟩ := hS
                    replace hF : Fr 196 [(2, some (.slice Fa free.length cf)), (7, some (.pointer (some ⟨bb4, 0, none⟩))), (8, some (.slice AA3 lcr.length cc3)), (9, some (.slice AA8 (k + 1) cc8)), (10, some (.slice AA10 (k + 1) cc10)), (11, some (.pointer (some ⟨bb5, 0, none⟩))), (12, some (.int .i64 (k : Int))), (13, some (.int .i64 (nt free k * 16))), (14, some (.int .i64 sst)), (15, some (.pointer (some ⟨bb6, 0, none⟩))), (16, some (.int .i64 see)), (17, some (.int .i64 (slv - (srt * spr - 1048576) * (pr lcr k).2))), (32, some (.int .i64 (k : Int))), (33, some (.slice AA3 lcr.length cc3)), (34, some (.int .i64 (lcr.length : Int))), (35, some (.bool true)), (38, some (.int .i64 (k : Int))), (39, some (.slice Fa free.length cf)), (40, some (.int .i64 (free.length : Int))), (41, some (.bool true)), (42, some (.slice Fa free.length cf)), (43, some (.int .i64 (k : Int))), (44, some (.pointer (some (ea Fa (k))))), (45, some (.int .u16 (nt free k))), (46, some (.int .i64 (nt free k))), (47, some (.int .i64 (nt free k * 16))), (48, some (.tuple #[.int .i64 sst, .agg #[.int .i64 sat, .int .i64 slv], .int .i64 see])), (49, some (.agg #[.int .i64 srt, .int .i64 spr])), (50, some (.agg #[.int .i64 aa, .int .i64 bl])), (51, some (.slice AA3 lcr.length cc3)), (52, some (.int .i64 (k : Int))), (53, some (.pointer (some (ea AA3 (k * 2))))), (54, some (.pointer (some (ea AA3 (k * 2))))), (55, some (.int .i64 (pr lcr k).1)), (56, some (.int .i64 (nt free k * 16))), (57, some (.slice AA3 lcr.length cc3)), (58, some (.int .i64 (k : Int))), (59, some (.pointer (some (ea AA3 (k * 2))))), (60, some (.pointer (some (ea AA3 (k * 2 + 1))))), (61, some (.int .i64 (pr lcr k).2)), (62, some (.tuple #[.int .i64 sst, .agg #[.int .i64 sat, .int .i64 slv], .int .i64 see])), (63, some (.int .i64 sst)), (64, some (.agg #[.int .i64 sat, .int .i64 slv])), (65, some (.int .i64 see)), (66, some (.int .i64 see)), (67, some (.bool false)), (70, some (.pointer (some ⟨bb6, 1, none⟩))), (71, some (.int .i64 slv)), (72, some (.pointer (some ⟨bb4, 0, none⟩))), (73, some (.int .i64 srt)), (74, some (.pointer (some ⟨bb4, 1, none⟩))), (75, some (.int .i64 spr)), (76, some (.int .i64 (srt * spr))), (77, some (.int .i64 (srt * spr - 1048576))), (78, some (.slice AA3 lcr.length cc3)), (79, some (.int .i64 (k : Int))), (80, some (.pointer (some (ea AA3 (k * 2))))), (81, some (.pointer (some (ea AA3 (k * 2 + 1))))), (82, some (.int .i64 (pr lcr k).2)), (83, some (.int .i64 ((srt * spr - 1048576) * (pr lcr k).2))), (84, some (.int .i64 (slv - (srt * spr - 1048576) * (pr lcr k).2))), (85, some (.int .i64 (slv - (srt * spr - 1048576) * (pr lcr k).2))), (86, some (.bool false)), (87, some (.bool false)), (88, some (.pointer (some ⟨bb6, 1, none⟩))), (89, some (.int .i64 slv)), (90, some (.slice AA3 lcr.length cc3)), (91, some (.int .i64 (k : Int))), (92, some (.pointer (some (ea AA3 (k * 2))))), (93, some (.pointer (some (ea AA3 (k * 2 + 1))))), (94, some (.int .i64 (pr lcr k).2)), (95, some (.int .i64 (-1048576 * (pr lcr k).2))), (96, some (.bool false)), (97, some (.bool false)), (98, some (.bool false)), (99, some (.pointer (some ⟨bb6, 0, none⟩))), (100, some (.int .i64 sat)), (101, some (.int .i64 sst)), (102, some (.slice AA3 lcr.length cc3)), (103, some (.int .i64 (k : Int))), (104, some (.pointer (some (ea AA3 (k * 2))))), (105, some (.pointer (some (ea AA3 (k * 2 + 1))))), (106, some (.int .i64 (pr lcr k).2)), (107, some (.pointer (some ⟨bb4, 1, none⟩))), (108, some (.int .i64 spr)), (109, some (.int .i64 ((pr lcr k).2 * spr))), (110, some (.int .i64 (sst + (pr lcr k).2 * spr))), (111, some (.bool false)), (112, some (.bool false)), (113, some (.bool false)), (114, some (.int .i64 sst)), (115, some (.int .i64 (nt free k * 16))), (116, some (.slice AA3 lcr.length cc3)), (117, some (.int .i64 (k : Int))), (118, some (.pointer (some (ea AA3 (k * 2))))), (119, some (.pointer (some (ea AA3 (k * 2))))), (120, some (.int .i64 (pr lcr k).1)), (121, some (.pointer (some ⟨bb5, 0, none⟩))), (122, some (.int .i64 aa)), (123, some (.int .i64 (max (pr lcr k).1 aa))), (124, some (.int .i64 (max (nt free k * 16) (max (pr lcr k).1 aa)))), (125, some (.bool false)), (126, some (.bool false)), (127, some (.int .i64 sst)), (128, some (.int .i64 (nt free k * 16))), (129, some (.slice AA3 lcr.length cc3)), (130, some (.int .i64 (k : Int))), (131, some (.pointer (some (ea AA3 (k * 2))))), (132, some (.pointer (some (ea AA3 (k * 2))))), (133, some (.int .i64 (pr lcr k).1)), (134, some (.pointer (some ⟨bb5, 0, none⟩))), (135, some (.int .i64 aa)), (136, some (.int .i64 (max (pr lcr k).1 aa))), (137, some (.int .i64 (max (nt free k * 16) (max (pr lcr k).1 aa)))), (138, some (.bool true)), (139, some (.bool true)), (140, some (.int .i64 (slv - (srt * spr - 1048576) * (pr lcr k).2))), (141, some (.pointer (some ⟨bb4, 0, none⟩))), (142, some (.int .i64 srt)), (143, some (.bool false)), (144, some (.bool false)), (145, some (.slice G1 k c1)), (146, some (.int .i64 sst)), (147, some (.slice (some ⟨bb7, 0, none⟩) 1 1)), (148, some (.slice AA8 (k + 1) cc8)), (149, some (.slice G2 k c2)), (150, some (.int .i64 (slv - (srt * spr - 1048576) * (pr lcr k).2))), (151, some (.slice (some ⟨bb9, 0, none⟩) 1 1)), (152, some (.slice AA10 (k + 1) cc10)), (153, some (.agg #[.int .i64 sat, .int .i64 slv]))] a := hF.cast (by kernel_rfl)
                    replace hM : Mem w0.heap.size w0 [(1, some (.ro Ga (gaps.map (Value.int .u16)))), (2, some (.ro Sa (sizes.map (Value.int .u16)))), (3, some (.ro Fa (free.map (Value.int .u16)))), (6, some (.own (.slice AA3 lcr.length cc3) 57 2 lcr.length (flat2 lcr))), (7, some (.row bb4 23 #[.int .i64 srt, .int .i64 spr])), (8, some (.row bb5 40 #[.int .i64 sat, .int .i64 slv])), (9, some (.own (.slice AA8 (k + 1) cc8) 3 1 (k + 1) ((SS ++ [sst]).map (Value.int .i64)))), (10, some (.own (.slice AA10 (k + 1) cc10) 3 1 (k + 1) ((LL ++ [slv - (srt * spr - 1048576) * (pr lcr k).2]).map (Value.int .i64)))), (11, some (.row bb6 40 #[.int .i64 sat, .int .i64 slv])), (12, some (.row bb7 3 #[.int .i64 sst])), (13, some (.row bb9 3 #[.int .i64 (slv - (srt * spr - 1048576) * (pr lcr k).2)]))] w := hM.cast (by kernel_rfl)
                    refine hK12 _ _ ?_
                    refine wp_region_lit ?_
                    refine sB 1 [(36, .int .i64 (k : Int))] hF (by kernel_rfl) fun a hF => ?_
                    refine wl (eP 37 (v0 := .int .i64 (IntKind.i64.wrap ((k : Int) + 1))) (v := .int .i64 ((k : Int) + 1)) hF (by kernel_rfl) (fun _ => by kernel_rfl) (wi (by omega)) fun a hF => ?_)
                    refine sB 1 [(12, .int .i64 ((k : Int) + 1))] hF (by kernel_rfl) fun a hF => ?_
                    refine wpList_nil ?_
                    refine hK9 _ _ ⟨(k + 1, sat, slv, SS ++ [sst], LL ++ [slv - (srt * spr - 1048576) * (pr lcr k).2], AA8, cc8, AA10, cc10), ⟨((((((((Fr.nil hF).c hF (i := 11) rfl rfl).c hF (i := 8) rfl rfl).c hF (i := 7) rfl rfl).c hF (i := 2) rfl rfl).c hF (i := 12) rfl (vi (show ((k : Int) + 1 : Int) = ((k + 1) : Int) from by omega))).c hF (i := 10) rfl rfl).c hF (i := 9) rfl rfl), (hM.sub ((((((((Sub.nil.c (k := 10) rfl rfl).c (k := 9) rfl rfl).c (k := 8) rfl rfl).c (k := 7) rfl rfl).c (k := 6) rfl rfl).c (k := 3) rfl rfl).c (k := 2) rfl rfl).c (k := 1) rfl rfl)), (show ((k + 1) : Int) ≤ (lcr.length : Int) from by omega), (show ((SS ++ [sst]).length : Int) = ((k + 1) : Int) from by simp; omega), (show ((LL ++ [slv - (srt * spr - 1048576) * (pr lcr k).2]).length : Int) = ((k + 1) : Int) from by simp; omega), (show Sh srt lcr (k + 1) (SS ++ [sst]) (LL ++ [slv - (srt * spr - 1048576) * (pr lcr k).2]) sat slv from by exact hnx)⟩, (show lcr.length - (k + 1) < lcr.length - k from by omega)⟩
              · skip
                refine rQ hM (by kernel_rfl) (by kernel_rfl) ?_
                refine eQ 127 (v0 := .int .i64 sst) (v := .int .i64 sst) hF (by kernel_rfl) (fun _ => by kernel_rfl) rfl fun a hF => ?_
                refine eQ 128 (v0 := .int .i64 (nt free k * 16)) (v := .int .i64 (nt free k * 16)) hF (by kernel_rfl) (fun _ => by kernel_rfl) rfl fun a hF => ?_
                refine eQ 129 (v0 := .slice AA3 lcr.length cc3) (v := .slice AA3 lcr.length cc3) hF (by kernel_rfl) (fun _ => by kernel_rfl) rfl fun a hF => ?_
                refine eQ 130 (v0 := .int .i64 (k : Int)) (v := .int .i64 (k : Int)) hF (by kernel_rfl) (fun _ => by kernel_rfl) rfl fun a hF => ?_
                refine eQ2 131 (v := .pointer (some (ea AA3 (k * 2)))) hF (by kernel_rfl) (yld_ix (kd := .i64) (e := 57) (len := lcr.length) (cap := cc3) (i := (k : Int)) (size := 2) (A := AA3) hF rfl (by kernel_rfl) (by kernel_rfl) (by kernel_rfl) (by kernel_rfl) (by kernel_rfl) (roO 6 rfl) (by omega) (by omega) (by rw [flat2_length]; omega)) fun a hF => ?_
                refine eQ 132 (v0 := .pointer (some (ea AA3 (k * 2)))) (v := .pointer (some (ea AA3 (k * 2)))) hF (by kernel_rfl) (fun _ => by kernel_rfl) rfl fun a hF => ?_
                refine eQ2 133 (v := .int .i64 (pr lcr k).1) hF (by kernel_rfl) (yld_ro1 (A := AA3) (j := k * 2) hF rfl (by kernel_rfl) (by kernel_rfl) (roO 6 rfl) (by kernel_rfl) (pr_fst (k := k) (by omega) (by omega))) fun a hF => ?_
                refine eQ 134 (v0 := .pointer (some ⟨bb5, 0, none⟩)) (v := .pointer (some ⟨bb5, 0, none⟩)) hF (by kernel_rfl) (fun _ => by kernel_rfl) rfl fun a hF => ?_
                refine eQL 135 8 0 (v := .int .i64 aa) hF (by kernel_rfl) rfl rfl (by kernel_rfl) (by kernel_rfl) fun a hF => ?_
                refine eQ 136 (v0 := .int .i64 (if aa > (pr lcr k).1 then aa else (pr lcr k).1)) (v := .int .i64 (max (pr lcr k).1 aa)) hF (by kernel_rfl) (fun _ => by kernel_rfl) (vi (max_if _ _)) fun a hF => ?_
                refine eQ 137 (v0 := .int .i64 (if max (pr lcr k).1 aa > nt free k * 16 then max (pr lcr k).1 aa else nt free k * 16)) (v := .int .i64 (max (nt free k * 16) (max (pr lcr k).1 aa))) hF (by kernel_rfl) (fun _ => by kernel_rfl) (vi (max_if _ _)) fun a hF => ?_
                refine eQ 138 (v0 := .bool (decide (max (nt free k * 16) (max (pr lcr k).1 aa) < sst))) (v := .bool false) hF (by kernel_rfl) (fun _ => by kernel_rfl) (bF hz9) fun a hF => ?_
                refine eQ 139 (v0 := .bool false) (v := .bool false) hF (by kernel_rfl) (fun _ => by kernel_rfl) rfl fun a hF => ?_
                refine qSkip hF (by kernel_rfl) rfl (by decide) fun a hF => ?_
                refine qSkip hF (by kernel_rfl) rfl (by decide) fun a hF => ?_
                refine qSkip hF (by kernel_rfl) rfl (by decide) fun a hF => ?_
                refine qSkip hF (by kernel_rfl) rfl (by decide) fun a hF => ?_
                refine eQ 144 (v0 := .bool false) (v := .bool false) hF (by kernel_rfl) (fun _ => by kernel_rfl) rfl fun a hF => ?_
                refine wpQuiet_nil ?_
                intro w hM
                refine hK23 _ _ ?_
                refine cF hF (by kernel_rfl) (by kernel_rfl) ?_
                refine wp_skip ?_
                refine hK22 _ _ ?_
                refine rF (by kernel_rfl) (by kernel_rfl) (fun S a w => ∃ bb11 : Nat, ∃ AA12 : Option Addr, ∃ cc12 : Nat, ∃ bb13 : Nat, ∃ AA14 : Option Addr, ∃ cc14 : Nat, Fr 196 [(2, some (.slice Fa free.length cf)), (7, some (.pointer (some ⟨bb4, 0, none⟩))), (8, some (.slice AA3 lcr.length cc3)), (9, (cond (S.getD 9 false) (some (.slice AA12 (k + 1) cc12)) (some (.slice G1 k c1)))), (10, (cond (S.getD 10 false) (some (.slice AA14 (k + 1) cc14)) (some (.slice G2 k c2)))), (11, some (.pointer (some ⟨bb5, 0, none⟩))), (12, some (.int .i64 (k : Int))), (13, some (.int .i64 (nt free k * 16))), (14, some (.int .i64 sst)), (15, some (.pointer (some ⟨bb6, 0, none⟩))), (16, some (.int .i64 see)), (17, some (.int .i64 (slv - (srt * spr - 1048576) * (pr lcr k).2))), (32, some (.int .i64 (k : Int))), (33, some (.slice AA3 lcr.length cc3)), (34, some (.int .i64 (lcr.length : Int))), (35, some (.bool true)), (38, some (.int .i64 (k : Int))), (39, some (.slice Fa free.length cf)), (40, some (.int .i64 (free.length : Int))), (41, some (.bool true)), (42, some (.slice Fa free.length cf)), (43, some (.int .i64 (k : Int))), (44, some (.pointer (some (ea Fa (k))))), (45, some (.int .u16 (nt free k))), (46, some (.int .i64 (nt free k))), (47, some (.int .i64 (nt free k * 16))), (48, some (.tuple #[.int .i64 sst, .agg #[.int .i64 sat, .int .i64 slv], .int .i64 see])), (49, some (.agg #[.int .i64 srt, .int .i64 spr])), (50, some (.agg #[.int .i64 aa, .int .i64 bl])), (51, some (.slice AA3 lcr.length cc3)), (52, some (.int .i64 (k : Int))), (53, some (.pointer (some (ea AA3 (k * 2))))), (54, some (.pointer (some (ea AA3 (k * 2))))), (55, some (.int .i64 (pr lcr k).1)), (56, some (.int .i64 (nt free k * 16))), (57, some (.slice AA3 lcr.length cc3)), (58, some (.int .i64 (k : Int))), (59, some (.pointer (some (ea AA3 (k * 2))))), (60, some (.pointer (some (ea AA3 (k * 2 + 1))))), (61, some (.int .i64 (pr lcr k).2)), (62, some (.tuple #[.int .i64 sst, .agg #[.int .i64 sat, .int .i64 slv], .int .i64 see])), (63, some (.int .i64 sst)), (64, some (.agg #[.int .i64 sat, .int .i64 slv])), (65, some (.int .i64 see)), (66, some (.int .i64 see)), (67, some (.bool false)), (70, some (.pointer (some ⟨bb6, 1, none⟩))), (71, some (.int .i64 slv)), (72, some (.pointer (some ⟨bb4, 0, none⟩))), (73, some (.int .i64 srt)), (74, some (.pointer (some ⟨bb4, 1, none⟩))), (75, some (.int .i64 spr)), (76, some (.int .i64 (srt * spr))), (77, some (.int .i64 (srt * spr - 1048576))), (78, some (.slice AA3 lcr.length cc3)), (79, some (.int .i64 (k : Int))), (80, some (.pointer (some (ea AA3 (k * 2))))), (81, some (.pointer (some (ea AA3 (k * 2 + 1))))), (82, some (.int .i64 (pr lcr k).2)), (83, some (.int .i64 ((srt * spr - 1048576) * (pr lcr k).2))), (84, some (.int .i64 (slv - (srt * spr - 1048576) * (pr lcr k).2))), (85, some (.int .i64 (slv - (srt * spr - 1048576) * (pr lcr k).2))), (86, some (.bool false)), (87, some (.bool false)), (88, some (.pointer (some ⟨bb6, 1, none⟩))), (89, some (.int .i64 slv)), (90, some (.slice AA3 lcr.length cc3)), (91, some (.int .i64 (k : Int))), (92, some (.pointer (some (ea AA3 (k * 2))))), (93, some (.pointer (some (ea AA3 (k * 2 + 1))))), (94, some (.int .i64 (pr lcr k).2)), (95, some (.int .i64 (-1048576 * (pr lcr k).2))), (96, some (.bool false)), (97, some (.bool false)), (98, some (.bool false)), (99, some (.pointer (some ⟨bb6, 0, none⟩))), (100, some (.int .i64 sat)), (101, some (.int .i64 sst)), (102, some (.slice AA3 lcr.length cc3)), (103, some (.int .i64 (k : Int))), (104, some (.pointer (some (ea AA3 (k * 2))))), (105, some (.pointer (some (ea AA3 (k * 2 + 1))))), (106, some (.int .i64 (pr lcr k).2)), (107, some (.pointer (some ⟨bb4, 1, none⟩))), (108, some (.int .i64 spr)), (109, some (.int .i64 ((pr lcr k).2 * spr))), (110, some (.int .i64 (sst + (pr lcr k).2 * spr))), (111, some (.bool false)), (112, some (.bool false)), (113, some (.bool false)), (114, some (.int .i64 sst)), (115, some (.int .i64 (nt free k * 16))), (116, some (.slice AA3 lcr.length cc3)), (117, some (.int .i64 (k : Int))), (118, some (.pointer (some (ea AA3 (k * 2))))), (119, some (.pointer (some (ea AA3 (k * 2))))), (120, some (.int .i64 (pr lcr k).1)), (121, some (.pointer (some ⟨bb5, 0, none⟩))), (122, some (.int .i64 aa)), (123, some (.int .i64 (max (pr lcr k).1 aa))), (124, some (.int .i64 (max (nt free k * 16) (max (pr lcr k).1 aa)))), (125, some (.bool false)), (126, some (.bool false)), (127, some (.int .i64 sst)), (128, some (.int .i64 (nt free k * 16))), (129, some (.slice AA3 lcr.length cc3)), (130, some (.int .i64 (k : Int))), (131, some (.pointer (some (ea AA3 (k * 2))))), (132, some (.pointer (some (ea AA3 (k * 2))))), (133, some (.int .i64 (pr lcr k).1)), (134, some (.pointer (some ⟨bb5, 0, none⟩))), (135, some (.int .i64 aa)), (136, some (.int .i64 (max (pr lcr k).1 aa))), (137, some (.int .i64 (max (nt free k * 16) (max (pr lcr k).1 aa)))), (138, some (.bool false)), (139, some (.bool false)), (140, some (undef)), (141, some (undef)), (142, some (undef)), (143, some (undef)), (144, some (.bool false)), (145, (cond (S.getD 0 false) (some (.slice G1 k c1)) none)), (146, (cond (S.getD 1 false) (some (.int .i64 sst)) none)), (147, (cond (S.getD 2 false) (some (.slice (some ⟨bb11, 0, none⟩) 1 1)) none)), (148, (cond (S.getD 3 false) (some (.slice AA12 (k + 1) cc12)) none)), (149, (cond (S.getD 4 false) (some (.slice G2 k c2)) none)), (150, (cond (S.getD 5 false) (some (.int .i64 (slv - (srt * spr - 1048576) * (pr lcr k).2))) none)), (151, (cond (S.getD 6 false) (some (.slice (some ⟨bb13, 0, none⟩) 1 1)) none)), (152, (cond (S.getD 7 false) (some (.slice AA14 (k + 1) cc14)) none)), (153, (cond (S.getD 8 false) (some (.agg #[.int .i64 sat, .int .i64 slv])) none))] a ∧ Mem w0.heap.size w0 [(1, some (.ro Ga (gaps.map (Value.int .u16)))), (2, some (.ro Sa (sizes.map (Value.int .u16)))), (3, some (.ro Fa (free.map (Value.int .u16)))), (6, some (.own (.slice AA3 lcr.length cc3) 57 2 lcr.length (flat2 lcr))), (7, some (.row bb4 23 #[.int .i64 srt, .int .i64 spr])), (8, (cond (S.getD 11 false) (some (.row bb5 40 #[.int .i64 sat, .int .i64 slv])) (some (.row bb5 40 #[.int .i64 aa, .int .i64 bl])))), (9, (cond (S.getD 3 false) (some (.own (.slice AA12 (k + 1) cc12) 3 1 (k + 1) ((SS ++ [sst]).map (Value.int .i64)))) (some (.own (.slice G1 k c1) 3 1 k (SS.map (Value.int .i64)))))), (10, (cond (S.getD 7 false) (some (.own (.slice AA14 (k + 1) cc14) 3 1 (k + 1) ((LL ++ [slv - (srt * spr - 1048576) * (pr lcr k).2]).map (Value.int .i64)))) (some (.own (.slice G2 k c2) 3 1 k (LL.map (Value.int .i64)))))), (11, some (.row bb6 40 #[.int .i64 sat, .int .i64 slv])), (14, (cond (S.getD 2 false) (some (.row bb11 3 #[.int .i64 sst])) none)), (15, (cond (S.getD 6 false) (some (.row bb13 3 #[.int .i64 (slv - (srt * spr - 1048576) * (pr lcr k).2)])) none))] w) ?_ ?_ ?_
                · exact ⟨0, none, 0, 0, none, 0, (((((((((((((((((((((((((((((((((((((((((((((((((((((((((((((((((((((((((((((((((((((((((((((((((((((((((((((((((((((((((((((((((((Fr.nil hF).co hF (i := 153) (by kernel_rfl)).co hF (i := 152) (by kernel_rfl)).co hF (i := 151) (by kernel_rfl)).co hF (i := 150) (by kernel_rfl)).co hF (i := 149) (by kernel_rfl)).co hF (i := 148) (by kernel_rfl)).co hF (i := 147) (by kernel_rfl)).co hF (i := 146) (by kernel_rfl)).co hF (i := 145) (by kernel_rfl)).co hF (i := 144) (by kernel_rfl)).co hF (i := 143) (by kernel_rfl)).co hF (i := 142) (by kernel_rfl)).co hF (i := 141) (by kernel_rfl)).co hF (i := 140) (by kernel_rfl)).co hF (i := 139) (by kernel_rfl)).co hF (i := 138) (by kernel_rfl)).co hF (i := 137) (by kernel_rfl)).co hF (i := 136) (by kernel_rfl)).co hF (i := 135) (by kernel_rfl)).co hF (i := 134) (by kernel_rfl)).co hF (i := 133) (by kernel_rfl)).co hF (i := 132) (by kernel_rfl)).co hF (i := 131) (by kernel_rfl)).co hF (i := 130) (by kernel_rfl)).co hF (i := 129) (by kernel_rfl)).co hF (i := 128) (by kernel_rfl)).co hF (i := 127) (by kernel_rfl)).co hF (i := 126) (by kernel_rfl)).co hF (i := 125) (by kernel_rfl)).co hF (i := 124) (by kernel_rfl)).co hF (i := 123) (by kernel_rfl)).co hF (i := 122) (by kernel_rfl)).co hF (i := 121) (by kernel_rfl)).co hF (i := 120) (by kernel_rfl)).co hF (i := 119) (by kernel_rfl)).co hF (i := 118) (by kernel_rfl)).co hF (i := 117) (by kernel_rfl)).co hF (i := 116) (by kernel_rfl)).co hF (i := 115) (by kernel_rfl)).co hF (i := 114) (by kernel_rfl)).co hF (i := 113) (by kernel_rfl)).co hF (i := 112) (by kernel_rfl)).co hF (i := 111) (by kernel_rfl)).co hF (i := 110) (by kernel_rfl)).co hF (i := 109) (by kernel_rfl)).co hF (i := 108) (by kernel_rfl)).co hF (i := 107) (by kernel_rfl)).co hF (i := 106) (by kernel_rfl)).co hF (i := 105) (by kernel_rfl)).co hF (i := 104) (by kernel_rfl)).co hF (i := 103) (by kernel_rfl)).co hF (i := 102) (by kernel_rfl)).co hF (i := 101) (by kernel_rfl)).co hF (i := 100) (by kernel_rfl)).co hF (i := 99) (by kernel_rfl)).co hF (i := 98) (by kernel_rfl)).co hF (i := 97) (by kernel_rfl)).co hF (i := 96) (by kernel_rfl)).co hF (i := 95) (by kernel_rfl)).co hF (i := 94) (by kernel_rfl)).co hF (i := 93) (by kernel_rfl)).co hF (i := 92) (by kernel_rfl)).co hF (i := 91) (by kernel_rfl)).co hF (i := 90) (by kernel_rfl)).co hF (i := 89) (by kernel_rfl)).co hF (i := 88) (by kernel_rfl)).co hF (i := 87) (by kernel_rfl)).co hF (i := 86) (by kernel_rfl)).co hF (i := 85) (by kernel_rfl)).co hF (i := 84) (by kernel_rfl)).co hF (i := 83) (by kernel_rfl)).co hF (i := 82) (by kernel_rfl)).co hF (i := 81) (by kernel_rfl)).co hF (i := 80) (by kernel_rfl)).co hF (i := 79) (by kernel_rfl)).co hF (i := 78) (by kernel_rfl)).co hF (i := 77) (by kernel_rfl)).co hF (i := 76) (by kernel_rfl)).co hF (i := 75) (by kernel_rfl)).co hF (i := 74) (by kernel_rfl)).co hF (i := 73) (by kernel_rfl)).co hF (i := 72) (by kernel_rfl)).co hF (i := 71) (by kernel_rfl)).co hF (i := 70) (by kernel_rfl)).co hF (i := 67) (by kernel_rfl)).co hF (i := 66) (by kernel_rfl)).co hF (i := 65) (by kernel_rfl)).co hF (i := 64) (by kernel_rfl)).co hF (i := 63) (by kernel_rfl)).co hF (i := 62) (by kernel_rfl)).co hF (i := 61) (by kernel_rfl)).co hF (i := 60) (by kernel_rfl)).co hF (i := 59) (by kernel_rfl)).co hF (i := 58) (by kernel_rfl)).co hF (i := 57) (by kernel_rfl)).co hF (i := 56) (by kernel_rfl)).co hF (i := 55) (by kernel_rfl)).co hF (i := 54) (by kernel_rfl)).co hF (i := 53) (by kernel_rfl)).co hF (i := 52) (by kernel_rfl)).co hF (i := 51) (by kernel_rfl)).co hF (i := 50) (by kernel_rfl)).co hF (i := 49) (by kernel_rfl)).co hF (i := 48) (by kernel_rfl)).co hF (i := 47) (by kernel_rfl)).co hF (i := 46) (by kernel_rfl)).co hF (i := 45) (by kernel_rfl)).co hF (i := 44) (by kernel_rfl)).co hF (i := 43) (by kernel_rfl)).co hF (i := 42) (by kernel_rfl)).co hF (i := 41) (by kernel_rfl)).co hF (i := 40) (by kernel_rfl)).co hF (i := 39) (by kernel_rfl)).co hF (i := 38) (by kernel_rfl)).co hF (i := 35) (by kernel_rfl)).co hF (i := 34) (by kernel_rfl)).co hF (i := 33) (by kernel_rfl)).co hF (i := 32) (by kernel_rfl)).co hF (i := 17) (by kernel_rfl)).co hF (i := 16) (by kernel_rfl)).co hF (i := 15) (by kernel_rfl)).co hF (i := 14) (by kernel_rfl)).co hF (i := 13) (by kernel_rfl)).co hF (i := 12) (by kernel_rfl)).co hF (i := 11) (by kernel_rfl)).co hF (i := 10) (by kernel_rfl)).co hF (i := 9) (by kernel_rfl)).co hF (i := 8) (by kernel_rfl)).co hF (i := 7) (by kernel_rfl)).co hF (i := 2) (by kernel_rfl)), hM.drew.sub (((((((((((Sub.nil.co (k := 15) (by kernel_rfl)).co (k := 14) (by kernel_rfl)).co (k := 11) (by kernel_rfl)).co (k := 10) (by kernel_rfl)).co (k := 9) (by kernel_rfl)).co (k := 8) (by kernel_rfl)).co (k := 7) (by kernel_rfl)).co (k := 6) (by kernel_rfl)).co (k := 3) (by kernel_rfl)).co (k := 2) (by kernel_rfl)).co (k := 1) (by kernel_rfl))⟩
                · refine stC ?_ (stC ?_ (stC ?_ (stC ?_ (stC ?_ (stC ?_ (stC ?_ (stC ?_ (stC ?_ (stC ?_ (stC ?_ (stC ?_ (trivial))))))))))))
                  · intro s0 s1 s2 s3 s4 s5 s6 s7 s8 s9 s10 s11 hc hi hp a w hS
                    obtain rfl : s0 = false := hi
                    obtain rfl : s3 = false := hc.f 3 0 (by kernel_rfl) rfl
                    obtain rfl : s9 = false := hc.f 9 0 (by kernel_rfl) rfl
                    obtain ⟨bb11, AA12, cc12, bb13, AA14, cc14, hF, hM⟩ := hS
                    refine eP 145 (v0 := .slice G1 k c1) (v := .slice G1 k c1) hF (by kernel_rfl) (fun _ => by kernel_rfl) rfl fun a hF => ?_
                    exact ⟨bb11, AA12, cc12, bb13, AA14, cc14, ((hF.repl 121 (by kernel_rfl)).cast (by kernel_rfl)), (hM.cast (by kernel_rfl))⟩
                  · intro s0 s1 s2 s3 s4 s5 s6 s7 s8 s9 s10 s11 hc hi hp a w hS
                    obtain rfl : s1 = false := hi
                    obtain ⟨bb11, AA12, cc12, bb13, AA14, cc14, hF, hM⟩ := hS
                    refine eP 146 (v0 := .int .i64 sst) (v := .int .i64 sst) hF (by kernel_rfl) (fun _ => by kernel_rfl) rfl fun a hF => ?_
                    exact ⟨bb11, AA12, cc12, bb13, AA14, cc14, ((hF.repl 122 (by kernel_rfl)).cast (by kernel_rfl)), (hM.cast (by kernel_rfl))⟩
                  · intro s0 s1 s2 s3 s4 s5 s6 s7 s8 s9 s10 s11 hc hi hp a w hS
                    obtain rfl : s2 = false := hi
                    obtain rfl : s1 = true := hp 1 (by kernel_rfl)
                    obtain ⟨bb11, AA12, cc12, bb13, AA14, cc14, hF, hM⟩ := hS
                    refine eN 147 14 (t := 3) (fun b => .slice (some ⟨b, 0, none⟩) 1 1) #[.int .i64 sst] hF hM (by kernel_rfl) (fun _ => by kernel_rfl) fun bb11 a w hF hM => ?_
                    exact ⟨bb11, AA12, cc12, bb13, AA14, cc14, ((hF.repl 123 (by kernel_rfl)).cast (by kernel_rfl)), ((hM.repl 9 (by kernel_rfl)).cast (by kernel_rfl))⟩
                  · intro s0 s1 s2 s3 s4 s5 s6 s7 s8 s9 s10 s11 hc hi hp a w hS
                    obtain rfl : s3 = false := hi
                    obtain rfl : s2 = true := hp 2 (by kernel_rfl)
                    obtain rfl : s0 = true := hp 0 (by kernel_rfl)
                    obtain rfl : s9 = false := hc.f 9 3 (by kernel_rfl) rfl
                    obtain ⟨bb11, AA12, cc12, bb13, AA14, cc14, hF, hM⟩ := hS
                    refine sApp 148 9 (e := 3) (size := 1) (bytes := 8) (z := .int .i64 0) (m := 1) (c := 1) (l := k) (cap := c1) (A := G1) (news := [.int .i64 sst]) ((SS ++ [sst]).map (Value.int .i64)) hF hM (by kernel_rfl) rfl (by kernel_rfl) (by kernel_rfl) (by kernel_rfl) rfl rfl rfl rfl (roR 14 rfl) (by simp [Value.oneCell']) (by omega) (by decide) (map_snoc' _ _ _) fun AA12 cc12 a w hF hM => ?_
                    exact ⟨bb11, AA12, cc12, bb13, AA14, cc14, ((hF.repl 124 (by kernel_rfl)).cast (by kernel_rfl)), ((hM.repl 6 (by kernel_rfl)).cast (by kernel_rfl))⟩
                  · intro s0 s1 s2 s3 s4 s5 s6 s7 s8 s9 s10 s11 hc hi hp a w hS
                    obtain rfl : s4 = false := hi
                    obtain rfl : s7 = false := hc.f 7 4 (by kernel_rfl) rfl
                    obtain rfl : s10 = false := hc.f 10 4 (by kernel_rfl) rfl
                    obtain ⟨bb11, AA12, cc12, bb13, AA14, cc14, hF, hM⟩ := hS
                    refine eP 149 (v0 := .slice G2 k c2) (v := .slice G2 k c2) hF (by kernel_rfl) (fun _ => by kernel_rfl) rfl fun a hF => ?_
                    exact ⟨bb11, AA12, cc12, bb13, AA14, cc14, ((hF.repl 125 (by kernel_rfl)).cast (by kernel_rfl)), (hM.cast (by kernel_rfl))⟩
                  · intro s0 s1 s2 s3 s4 s5 s6 s7 s8 s9 s10 s11 hc hi hp a w hS
                    obtain rfl : s5 = false := hi
                    obtain ⟨bb11, AA12, cc12, bb13, AA14, cc14, hF, hM⟩ := hS
                    refine eP 150 (v0 := .int .i64 (slv - (srt * spr - 1048576) * (pr lcr k).2)) (v := .int .i64 (slv - (srt * spr - 1048576) * (pr lcr k).2)) hF (by kernel_rfl) (fun _ => by kernel_rfl) rfl fun a hF => ?_
                    exact ⟨bb11, AA12, cc12, bb13, AA14, cc14, ((hF.repl 126 (by kernel_rfl)).cast (by kernel_rfl)), (hM.cast (by kernel_rfl))⟩
                  · intro s0 s1 s2 s3 s4 s5 s6 s7 s8 s9 s10 s11 hc hi hp a w hS
                    obtain rfl : s6 = false := hi
                    obtain rfl : s5 = true := hp 5 (by kernel_rfl)
                    obtain ⟨bb11, AA12, cc12, bb13, AA14, cc14, hF, hM⟩ := hS
                    refine eN 151 15 (t := 3) (fun b => .slice (some ⟨b, 0, none⟩) 1 1) #[.int .i64 (slv - (srt * spr - 1048576) * (pr lcr k).2)] hF hM (by kernel_rfl) (fun _ => by kernel_rfl) fun bb13 a w hF hM => ?_
                    exact ⟨bb11, AA12, cc12, bb13, AA14, cc14, ((hF.repl 127 (by kernel_rfl)).cast (by kernel_rfl)), ((hM.repl 10 (by kernel_rfl)).cast (by kernel_rfl))⟩
                  · intro s0 s1 s2 s3 s4 s5 s6 s7 s8 s9 s10 s11 hc hi hp a w hS
                    obtain rfl : s7 = false := hi
                    obtain rfl : s6 = true := hp 6 (by kernel_rfl)
                    obtain rfl : s4 = true := hp 4 (by kernel_rfl)
                    obtain rfl : s10 = false := hc.f 10 7 (by kernel_rfl) rfl
                    obtain ⟨bb11, AA12, cc12, bb13, AA14, cc14, hF, hM⟩ := hS
                    refine sApp 152 10 (e := 3) (size := 1) (bytes := 8) (z := .int .i64 0) (m := 1) (c := 1) (l := k) (cap := c2) (A := G2) (news := [.int .i64 (slv - (srt * spr - 1048576) * (pr lcr k).2)]) ((LL ++ [slv - (srt * spr - 1048576) * (pr lcr k).2]).map (Value.int .i64)) hF hM (by kernel_rfl) rfl (by kernel_rfl) (by kernel_rfl) (by kernel_rfl) rfl rfl rfl rfl (roR 15 rfl) (by simp [Value.oneCell']) (by omega) (by decide) (map_snoc' _ _ _) fun AA14 cc14 a w hF hM => ?_
                    exact ⟨bb11, AA12, cc12, bb13, AA14, cc14, ((hF.repl 128 (by kernel_rfl)).cast (by kernel_rfl)), ((hM.repl 7 (by kernel_rfl)).cast (by kernel_rfl))⟩
                  · intro s0 s1 s2 s3 s4 s5 s6 s7 s8 s9 s10 s11 hc hi hp a w hS
                    obtain rfl : s8 = false := hi
                    obtain ⟨bb11, AA12, cc12, bb13, AA14, cc14, hF, hM⟩ := hS
                    refine eL 153 11 0 (v := .agg #[.int .i64 sat, .int .i64 slv]) hF hM (by kernel_rfl) rfl rfl (by kernel_rfl) (by kernel_rfl) fun a w hF hM => ?_
                    exact ⟨bb11, AA12, cc12, bb13, AA14, cc14, ((hF.repl 129 (by kernel_rfl)).cast (by kernel_rfl)), (hM.cast (by kernel_rfl))⟩
                  · intro s0 s1 s2 s3 s4 s5 s6 s7 s8 s9 s10 s11 hc hi hp a w hS
                    obtain rfl : s9 = false := hi
                    obtain rfl : s3 = true := hp 3 (by kernel_rfl)
                    obtain ⟨bb11, AA12, cc12, bb13, AA14, cc14, hF, hM⟩ := hS
                    refine eP 9 (v0 := .slice AA12 (k + 1) cc12) (v := .slice AA12 (k + 1) cc12) hF (by kernel_rfl) (fun _ => by kernel_rfl) rfl fun a hF => ?_
                    exact ⟨bb11, AA12, cc12, bb13, AA14, cc14, ((hF.repl 3 (by kernel_rfl)).cast (by kernel_rfl)), (hM.cast (by kernel_rfl))⟩
                  · intro s0 s1 s2 s3 s4 s5 s6 s7 s8 s9 s10 s11 hc hi hp a w hS
                    obtain rfl : s10 = false := hi
                    obtain rfl : s7 = true := hp 7 (by kernel_rfl)
                    obtain ⟨bb11, AA12, cc12, bb13, AA14, cc14, hF, hM⟩ := hS
                    refine eP 10 (v0 := .slice AA14 (k + 1) cc14) (v := .slice AA14 (k + 1) cc14) hF (by kernel_rfl) (fun _ => by kernel_rfl) rfl fun a hF => ?_
                    exact ⟨bb11, AA12, cc12, bb13, AA14, cc14, ((hF.repl 4 (by kernel_rfl)).cast (by kernel_rfl)), (hM.cast (by kernel_rfl))⟩
                  · intro s0 s1 s2 s3 s4 s5 s6 s7 s8 s9 s10 s11 hc hi hp a w hS
                    obtain rfl : s11 = false := hi
                    obtain rfl : s8 = true := hp 8 (by kernel_rfl)
                    obtain ⟨bb11, AA12, cc12, bb13, AA14, cc14, hF, hM⟩ := hS
                    refine sStore (i := 8) (off := 0) (cs' := #[.int .i64 sat, .int .i64 slv]) hF hM (by kernel_rfl) rfl rfl (by kernel_rfl) (by kernel_rfl) rfl (by kernel_rfl) fun w hM => ?_
                    exact ⟨bb11, AA12, cc12, bb13, AA14, cc14, (hF.cast (by kernel_rfl)), ((hM.repl 5 (by kernel_rfl)).cast (by kernel_rfl))⟩
                · intro a w hS
                  obtain ⟨bb11, AA12, cc12, bb13, AA14, cc14, hF, hM⟩ := hS
                  replace hF : Fr 196 [(2, some (.slice Fa free.length cf)), (7, some (.pointer (some ⟨bb4, 0, none⟩))), (8, some (.slice AA3 lcr.length cc3)), (9, some (.slice AA12 (k + 1) cc12)), (10, some (.slice AA14 (k + 1) cc14)), (11, some (.pointer (some ⟨bb5, 0, none⟩))), (12, some (.int .i64 (k : Int))), (13, some (.int .i64 (nt free k * 16))), (14, some (.int .i64 sst)), (15, some (.pointer (some ⟨bb6, 0, none⟩))), (16, some (.int .i64 see)), (17, some (.int .i64 (slv - (srt * spr - 1048576) * (pr lcr k).2))), (32, some (.int .i64 (k : Int))), (33, some (.slice AA3 lcr.length cc3)), (34, some (.int .i64 (lcr.length : Int))), (35, some (.bool true)), (38, some (.int .i64 (k : Int))), (39, some (.slice Fa free.length cf)), (40, some (.int .i64 (free.length : Int))), (41, some (.bool true)), (42, some (.slice Fa free.length cf)), (43, some (.int .i64 (k : Int))), (44, some (.pointer (some (ea Fa (k))))), (45, some (.int .u16 (nt free k))), (46, some (.int .i64 (nt free k))), (47, some (.int .i64 (nt free k * 16))), (48, some (.tuple #[.int .i64 sst, .agg #[.int .i64 sat, .int .i64 slv], .int .i64 see])), (49, some (.agg #[.int .i64 srt, .int .i64 spr])), (50, some (.agg #[.int .i64 aa, .int .i64 bl])), (51, some (.slice AA3 lcr.length cc3)), (52, some (.int .i64 (k : Int))), (53, some (.pointer (some (ea AA3 (k * 2))))), (54, some (.pointer (some (ea AA3 (k * 2))))), (55, some (.int .i64 (pr lcr k).1)), (56, some (.int .i64 (nt free k * 16))), (57, some (.slice AA3 lcr.length cc3)), (58, some (.int .i64 (k : Int))), (59, some (.pointer (some (ea AA3 (k * 2))))), (60, some (.pointer (some (ea AA3 (k * 2 + 1))))), (61, some (.int .i64 (pr lcr k).2)), (62, some (.tuple #[.int .i64 sst, .agg #[.int .i64 sat, .int .i64 slv], .int .i64 see])), (63, some (.int .i64 sst)), (64, some (.agg #[.int .i64 sat, .int .i64 slv])), (65, some (.int .i64 see)), (66, some (.int .i64 see)), (67, some (.bool false)), (70, some (.pointer (some ⟨bb6, 1, none⟩))), (71, some (.int .i64 slv)), (72, some (.pointer (some ⟨bb4, 0, none⟩))), (73, some (.int .i64 srt)), (74, some (.pointer (some ⟨bb4, 1, none⟩))), (75, some (.int .i64 spr)), (76, some (.int .i64 (srt * spr))), (77, some (.int .i64 (srt * spr - 1048576))), (78, some (.slice AA3 lcr.length cc3)), (79, some (.int .i64 (k : Int))), (80, some (.pointer (some (ea AA3 (k * 2))))), (81, some (.pointer (some (ea AA3 (k * 2 + 1))))), (82, some (.int .i64 (pr lcr k).2)), (83, some (.int .i64 ((srt * spr - 1048576) * (pr lcr k).2))), (84, some (.int .i64 (slv - (srt * spr - 1048576) * (pr lcr k).2))), (85, some (.int .i64 (slv - (srt * spr - 1048576) * (pr lcr k).2))), (86, some (.bool false)), (87, some (.bool false)), (88, some (.pointer (some ⟨bb6, 1, none⟩))), (89, some (.int .i64 slv)), (90, some (.slice AA3 lcr.length cc3)), (91, some (.int .i64 (k : Int))), (92, some (.pointer (some (ea AA3 (k * 2))))), (93, some (.pointer (some (ea AA3 (k * 2 + 1))))), (94, some (.int .i64 (pr lcr k).2)), (95, some (.int .i64 (-1048576 * (pr lcr k).2))), (96, some (.bool false)), (97, some (.bool false)), (98, some (.bool false)), (99, some (.pointer (some ⟨bb6, 0, none⟩))), (100, some (.int .i64 sat)), (101, some (.int .i64 sst)), (102, some (.slice AA3 lcr.length cc3)), (103, some (.int .i64 (k : Int))), (104, some (.pointer (some (ea AA3 (k * 2))))), (105, some (.pointer (some (ea AA3 (k * 2 + 1))))), (106, some (.int .i64 (pr lcr k).2)), (107, some (.pointer (some ⟨bb4, 1, none⟩))), (108, some (.int .i64 spr)), (109, some (.int .i64 ((pr lcr k).2 * spr))), (110, some (.int .i64 (sst + (pr lcr k).2 * spr))), (111, some (.bool false)), (112, some (.bool false)), (113, some (.bool false)), (114, some (.int .i64 sst)), (115, some (.int .i64 (nt free k * 16))), (116, some (.slice AA3 lcr.length cc3)), (117, some (.int .i64 (k : Int))), (118, some (.pointer (some (ea AA3 (k * 2))))), (119, some (.pointer (some (ea AA3 (k * 2))))), (120, some (.int .i64 (pr lcr k).1)), (121, some (.pointer (some ⟨bb5, 0, none⟩))), (122, some (.int .i64 aa)), (123, some (.int .i64 (max (pr lcr k).1 aa))), (124, some (.int .i64 (max (nt free k * 16) (max (pr lcr k).1 aa)))), (125, some (.bool false)), (126, some (.bool false)), (127, some (.int .i64 sst)), (128, some (.int .i64 (nt free k * 16))), (129, some (.slice AA3 lcr.length cc3)), (130, some (.int .i64 (k : Int))), (131, some (.pointer (some (ea AA3 (k * 2))))), (132, some (.pointer (some (ea AA3 (k * 2))))), (133, some (.int .i64 (pr lcr k).1)), (134, some (.pointer (some ⟨bb5, 0, none⟩))), (135, some (.int .i64 aa)), (136, some (.int .i64 (max (pr lcr k).1 aa))), (137, some (.int .i64 (max (nt free k * 16) (max (pr lcr k).1 aa)))), (138, some (.bool false)), (139, some (.bool false)), (140, some (undef)), (141, some (undef)), (142, some (undef)), (143, some (undef)), (144, some (.bool false)), (145, some (.slice G1 k c1)), (146, some (.int .i64 sst)), (147, some (.slice (some ⟨bb11, 0, none⟩) 1 1)), (148, some (.slice AA12 (k + 1) cc12)), (149, some (.slice G2 k c2)), (150, some (.int .i64 (slv - (srt * spr - 1048576) * (pr lcr k).2))), (151, some (.slice (some ⟨bb13, 0, none⟩) 1 1)), (152, some (.slice AA14 (k + 1) cc14)), (153, some (.agg #[.int .i64 sat, .int .i64 slv]))] a := hF.cast (by kernel_rfl)
                  replace hM : Mem w0.heap.size w0 [(1, some (.ro Ga (gaps.map (Value.int .u16)))), (2, some (.ro Sa (sizes.map (Value.int .u16)))), (3, some (.ro Fa (free.map (Value.int .u16)))), (6, some (.own (.slice AA3 lcr.length cc3) 57 2 lcr.length (flat2 lcr))), (7, some (.row bb4 23 #[.int .i64 srt, .int .i64 spr])), (8, some (.row bb5 40 #[.int .i64 sat, .int .i64 slv])), (9, some (.own (.slice AA12 (k + 1) cc12) 3 1 (k + 1) ((SS ++ [sst]).map (Value.int .i64)))), (10, some (.own (.slice AA14 (k + 1) cc14) 3 1 (k + 1) ((LL ++ [slv - (srt * spr - 1048576) * (pr lcr k).2]).map (Value.int .i64)))), (11, some (.row bb6 40 #[.int .i64 sat, .int .i64 slv])), (14, some (.row bb11 3 #[.int .i64 sst])), (15, some (.row bb13 3 #[.int .i64 (slv - (srt * spr - 1048576) * (pr lcr k).2)]))] w := hM.cast (by kernel_rfl)
                  refine hK12 _ _ ?_
                  refine wp_region_lit ?_
                  refine sB 1 [(36, .int .i64 (k : Int))] hF (by kernel_rfl) fun a hF => ?_
                  refine wl (eP 37 (v0 := .int .i64 (IntKind.i64.wrap ((k : Int) + 1))) (v := .int .i64 ((k : Int) + 1)) hF (by kernel_rfl) (fun _ => by kernel_rfl) (wi (by omega)) fun a hF => ?_)
                  refine sB 1 [(12, .int .i64 ((k : Int) + 1))] hF (by kernel_rfl) fun a hF => ?_
                  refine wpList_nil ?_
                  refine hK9 _ _ ⟨(k + 1, sat, slv, SS ++ [sst], LL ++ [slv - (srt * spr - 1048576) * (pr lcr k).2], AA12, cc12, AA14, cc14), ⟨((((((((Fr.nil hF).c hF (i := 11) rfl rfl).c hF (i := 8) rfl rfl).c hF (i := 7) rfl rfl).c hF (i := 2) rfl rfl).c hF (i := 12) rfl (vi (show ((k : Int) + 1 : Int) = ((k + 1) : Int) from by omega))).c hF (i := 10) rfl rfl).c hF (i := 9) rfl rfl), (hM.sub ((((((((Sub.nil.c (k := 10) rfl rfl).c (k := 9) rfl rfl).c (k := 8) rfl rfl).c (k := 7) rfl rfl).c (k := 6) rfl rfl).c (k := 3) rfl rfl).c (k := 2) rfl rfl).c (k := 1) rfl rfl)), (show ((k + 1) : Int) ≤ (lcr.length : Int) from by omega), (show ((SS ++ [sst]).length : Int) = ((k + 1) : Int) from by simp; omega), (show ((LL ++ [slv - (srt * spr - 1048576) * (pr lcr k).2]).length : Int) = ((k + 1) : Int) from by simp; omega), (show Sh srt lcr (k + 1) (SS ++ [sst]) (LL ++ [slv - (srt * spr - 1048576) * (pr lcr k).2]) sat slv from by exact hnx)⟩, (show lcr.length - (k + 1) < lcr.length - k from by omega)⟩
            · skip
              replace hF := hF.c hF (i := 67) (v := .bool true) rfl (nF hz7)
              refine cT hF (by kernel_rfl) (by kernel_rfl) ?_
              refine wp_seq_k fun K25 hK25 => ?_
              have hse : see = 6 := by rw [e_see]; exact cst_six (free := nt free k * 16) hslo hSh.st htim hfre hprk.2.2.1 hprk.2.2.2 (by rw [← e_see]; omega)
              refine wp_region_lit ?_
              refine sB 1 [(68, .int .i64 see)] hF (by kernel_rfl) fun a hF => ?_
              refine wl (eP 69 (v0 := .bool (decide (see = 6))) (v := .bool true) hF (by kernel_rfl) (fun _ => by kernel_rfl) (bT (by omega)) fun a hF => ?_)
              refine sB 1 [(6, .bool true)] hF (by kernel_rfl) fun a hF => ?_
              refine wpList_nil ?_
              refine hK25 _ _ ?_
              refine wp_ret ?_
              refine hR0 _ _ ?_
              refine ret_of hF hM (.tmp rfl (.nil)) ?_
              exact ⟨rfl, hM.bel⟩
        · skip
          replace hF := hF.c hF (i := 41) (v := .bool false) rfl (bF hz6)
          refine cF hF (by kernel_rfl) (by kernel_rfl) ?_
          refine wp_skip ?_
          refine hK14 _ _ ?_
          refine wp_seq_k fun K26 hK26 => ?_
          have hfre : timeB (0) = true := timeB_iff.2 (by omega)
          have htim : timeB (pr lcr k).1 = true := timeB_iff.2 (by omega)
          obtain ⟨sst, e_sst⟩ : ∃ x : Int, x = cstS srt spr aa bl (pr lcr k).1 0 (pr lcr k).2 := ⟨_, rfl⟩
          obtain ⟨sat, e_sat⟩ : ∃ x : Int, x = cstA srt spr aa bl (pr lcr k).1 0 (pr lcr k).2 := ⟨_, rfl⟩
          obtain ⟨slv, e_slv⟩ : ∃ x : Int, x = cstL srt spr aa bl (pr lcr k).1 0 (pr lcr k).2 := ⟨_, rfl⟩
          obtain ⟨see, e_see⟩ : ∃ x : Int, x = cstE srt spr aa bl (pr lcr k).1 0 (pr lcr k).2 := ⟨_, rfl⟩
          refine rF (by kernel_rfl) (by kernel_rfl) (fun S a w => ∃ bb15 : Nat, Fr 196 [(2, some (.slice Fa free.length cf)), (7, some (.pointer (some ⟨bb4, 0, none⟩))), (8, some (.slice AA3 lcr.length cc3)), (9, some (.slice G1 k c1)), (10, some (.slice G2 k c2)), (11, some (.pointer (some ⟨bb5, 0, none⟩))), (12, some (.int .i64 (k : Int))), (13, some (.int .i64 0)), (14, (cond (S.getD 19 false) (some (.int .i64 sst)) none)), (15, (cond (S.getD 18 false) (some (.pointer (some ⟨bb15, 0, none⟩))) none)), (16, (cond (S.getD 21 false) (some (.int .i64 see)) none)), (32, some (.int .i64 (k : Int))), (33, some (.slice AA3 lcr.length cc3)), (34, some (.int .i64 (lcr.length : Int))), (35, some (.bool true)), (38, some (.int .i64 (k : Int))), (39, some (.slice Fa free.length cf)), (40, some (.int .i64 (free.length : Int))), (41, some (.bool false)), (48, (cond (S.getD 14 false) (some (.tuple #[.int .i64 sst, .agg #[.int .i64 sat, .int .i64 slv], .int .i64 see])) none)), (49, (cond (S.getD 0 false) (some (.agg #[.int .i64 srt, .int .i64 spr])) none)), (50, (cond (S.getD 1 false) (some (.agg #[.int .i64 aa, .int .i64 bl])) none)), (51, (cond (S.getD 2 false) (some (.slice AA3 lcr.length cc3)) none)), (52, (cond (S.getD 3 false) (some (.int .i64 (k : Int))) none)), (53, (cond (S.getD 4 false) (some (.pointer (some (ea AA3 (k * 2))))) none)), (54, (cond (S.getD 5 false) (some (.pointer (some (ea AA3 (k * 2))))) none)), (55, (cond (S.getD 6 false) (some (.int .i64 (pr lcr k).1)) none)), (56, (cond (S.getD 7 false) (some (.int .i64 0)) none)), (57, (cond (S.getD 8 false) (some (.slice AA3 lcr.length cc3)) none)), (58, (cond (S.getD 9 false) (some (.int .i64 (k : Int))) none)), (59, (cond (S.getD 10 false) (some (.pointer (some (ea AA3 (k * 2))))) none)), (60, (cond (S.getD 11 false) (some (.pointer (some (ea AA3 (k * 2 + 1))))) none)), (61, (cond (S.getD 12 false) (some (.int .i64 (pr lcr k).2)) none)), (62, (cond (S.getD 13 false) (some (.tuple #[.int .i64 sst, .agg #[.int .i64 sat, .int .i64 slv], .int .i64 see])) none)), (63, (cond (S.getD 15 false) (some (.int .i64 sst)) none)), (64, (cond (S.getD 16 false) (some (.agg #[.int .i64 sat, .int .i64 slv])) none)), (65, (cond (S.getD 17 false) (some (.int .i64 see)) none))] a ∧ Mem w0.heap.size w0 [(1, some (.ro Ga (gaps.map (Value.int .u16)))), (2, some (.ro Sa (sizes.map (Value.int .u16)))), (3, some (.ro Fa (free.map (Value.int .u16)))), (6, some (.own (.slice AA3 lcr.length cc3) 57 2 lcr.length (flat2 lcr))), (7, some (.row bb4 23 #[.int .i64 srt, .int .i64 spr])), (8, some (.row bb5 40 #[.int .i64 aa, .int .i64 bl])), (9, some (.own (.slice G1 k c1) 3 1 k (SS.map (Value.int .i64)))), (10, some (.own (.slice G2 k c2) 3 1 k (LL.map (Value.int .i64)))), (16, (cond (S.getD 20 false) (some (.row bb15 40 #[.int .i64 sat, .int .i64 slv])) (cond (S.getD 18 false) (some (.row bb15 40 #[.int .i64 0, .int .i64 0])) none)))] w) ?_ ?_ ?_
          · exact ⟨0, ((((((((((((((((((((((((((((((((((((((Fr.nil hF).co hF (i := 65) (by kernel_rfl)).co hF (i := 64) (by kernel_rfl)).co hF (i := 63) (by kernel_rfl)).co hF (i := 62) (by kernel_rfl)).co hF (i := 61) (by kernel_rfl)).co hF (i := 60) (by kernel_rfl)).co hF (i := 59) (by kernel_rfl)).co hF (i := 58) (by kernel_rfl)).co hF (i := 57) (by kernel_rfl)).co hF (i := 56) (by kernel_rfl)).co hF (i := 55) (by kernel_rfl)).co hF (i := 54) (by kernel_rfl)).co hF (i := 53) (by kernel_rfl)).co hF (i := 52) (by kernel_rfl)).co hF (i := 51) (by kernel_rfl)).co hF (i := 50) (by kernel_rfl)).co hF (i := 49) (by kernel_rfl)).co hF (i := 48) (by kernel_rfl)).co hF (i := 41) (by kernel_rfl)).co hF (i := 40) (by kernel_rfl)).co hF (i := 39) (by kernel_rfl)).co hF (i := 38) (by kernel_rfl)).co hF (i := 35) (by kernel_rfl)).co hF (i := 34) (by kernel_rfl)).co hF (i := 33) (by kernel_rfl)).co hF (i := 32) (by kernel_rfl)).co hF (i := 16) (by kernel_rfl)).co hF (i := 15) (by kernel_rfl)).co hF (i := 14) (by kernel_rfl)).co hF (i := 13) (by kernel_rfl)).co hF (i := 12) (by kernel_rfl)).co hF (i := 11) (by kernel_rfl)).co hF (i := 10) (by kernel_rfl)).co hF (i := 9) (by kernel_rfl)).co hF (i := 8) (by kernel_rfl)).co hF (i := 7) (by kernel_rfl)).co hF (i := 2) (by kernel_rfl)), hM.drew.sub (((((((((Sub.nil.co (k := 16) (by kernel_rfl)).co (k := 10) (by kernel_rfl)).co (k := 9) (by kernel_rfl)).co (k := 8) (by kernel_rfl)).co (k := 7) (by kernel_rfl)).co (k := 6) (by kernel_rfl)).co (k := 3) (by kernel_rfl)).co (k := 2) (by kernel_rfl)).co (k := 1) (by kernel_rfl))⟩
          · refine stC ?_ (stC ?_ (stC ?_ (stC ?_ (stC ?_ (stC ?_ (stC ?_ (stC ?_ (stC ?_ (stC ?_ (stC ?_ (stC ?_ (stC ?_ (stC ?_ (stC ?_ (stC ?_ (stC ?_ (stC ?_ (stC ?_ (stC ?_ (stC ?_ (stC ?_ (trivial))))))))))))))))))))))
            · intro s0 s1 s2 s3 s4 s5 s6 s7 s8 s9 s10 s11 s12 s13 s14 s15 s16 s17 s18 s19 s20 s21 hc hi hp a w hS
              obtain rfl : s0 = false := hi
              obtain ⟨bb15, hF, hM⟩ := hS
              refine eL 49 7 0 (v := .agg #[.int .i64 srt, .int .i64 spr]) hF hM (by kernel_rfl) rfl rfl (by kernel_rfl) (by kernel_rfl) fun a w hF hM => ?_
              exact ⟨bb15, ((hF.repl 20 (by kernel_rfl)).cast (by kernel_rfl)), (hM.cast (by kernel_rfl))⟩
            · intro s0 s1 s2 s3 s4 s5 s6 s7 s8 s9 s10 s11 s12 s13 s14 s15 s16 s17 s18 s19 s20 s21 hc hi hp a w hS
              obtain rfl : s1 = false := hi
              obtain ⟨bb15, hF, hM⟩ := hS
              refine eL 50 8 0 (v := .agg #[.int .i64 aa, .int .i64 bl]) hF hM (by kernel_rfl) rfl rfl (by kernel_rfl) (by kernel_rfl) fun a w hF hM => ?_
              exact ⟨bb15, ((hF.repl 21 (by kernel_rfl)).cast (by kernel_rfl)), (hM.cast (by kernel_rfl))⟩
            · intro s0 s1 s2 s3 s4 s5 s6 s7 s8 s9 s10 s11 s12 s13 s14 s15 s16 s17 s18 s19 s20 s21 hc hi hp a w hS
              obtain rfl : s2 = false := hi
              obtain ⟨bb15, hF, hM⟩ := hS
              refine eP 51 (v0 := .slice AA3 lcr.length cc3) (v := .slice AA3 lcr.length cc3) hF (by kernel_rfl) (fun _ => by kernel_rfl) rfl fun a hF => ?_
              exact ⟨bb15, ((hF.repl 22 (by kernel_rfl)).cast (by kernel_rfl)), (hM.cast (by kernel_rfl))⟩
            · intro s0 s1 s2 s3 s4 s5 s6 s7 s8 s9 s10 s11 s12 s13 s14 s15 s16 s17 s18 s19 s20 s21 hc hi hp a w hS
              obtain rfl : s3 = false := hi
              obtain ⟨bb15, hF, hM⟩ := hS
              refine eP 52 (v0 := .int .i64 (k : Int)) (v := .int .i64 (k : Int)) hF (by kernel_rfl) (fun _ => by kernel_rfl) rfl fun a hF => ?_
              exact ⟨bb15, ((hF.repl 23 (by kernel_rfl)).cast (by kernel_rfl)), (hM.cast (by kernel_rfl))⟩
            · intro s0 s1 s2 s3 s4 s5 s6 s7 s8 s9 s10 s11 s12 s13 s14 s15 s16 s17 s18 s19 s20 s21 hc hi hp a w hS
              obtain rfl : s4 = false := hi
              obtain rfl : s3 = true := hp 3 (by kernel_rfl)
              obtain rfl : s2 = true := hp 2 (by kernel_rfl)
              obtain ⟨bb15, hF, hM⟩ := hS
              refine eM 53 (v := .pointer (some (ea AA3 (k * 2)))) hF hM (by kernel_rfl) (yld_ix (kd := .i64) (e := 57) (len := lcr.length) (cap := cc3) (i := (k : Int)) (size := 2) (A := AA3) hF rfl (by kernel_rfl) (by kernel_rfl) (by kernel_rfl) (by kernel_rfl) (by kernel_rfl) (roO 6 rfl) (by omega) (by omega) (by rw [flat2_length]; omega)) fun a w hF hM => ?_
              exact ⟨bb15, ((hF.repl 24 (by kernel_rfl)).cast (by kernel_rfl)), (hM.cast (by kernel_rfl))⟩
            · intro s0 s1 s2 s3 s4 s5 s6 s7 s8 s9 s10 s11 s12 s13 s14 s15 s16 s17 s18 s19 s20 s21 hc hi hp a w hS
              obtain rfl : s5 = false := hi
              obtain rfl : s4 = true := hp 4 (by kernel_rfl)
              obtain ⟨bb15, hF, hM⟩ := hS
              refine eP 54 (v0 := .pointer (some (ea AA3 (k * 2)))) (v := .pointer (some (ea AA3 (k * 2)))) hF (by kernel_rfl) (fun _ => by kernel_rfl) rfl fun a hF => ?_
              exact ⟨bb15, ((hF.repl 25 (by kernel_rfl)).cast (by kernel_rfl)), (hM.cast (by kernel_rfl))⟩
            · intro s0 s1 s2 s3 s4 s5 s6 s7 s8 s9 s10 s11 s12 s13 s14 s15 s16 s17 s18 s19 s20 s21 hc hi hp a w hS
              obtain rfl : s6 = false := hi
              obtain rfl : s5 = true := hp 5 (by kernel_rfl)
              obtain ⟨bb15, hF, hM⟩ := hS
              refine eM 55 (v := .int .i64 (pr lcr k).1) hF hM (by kernel_rfl) (yld_ro1 (A := AA3) (j := k * 2) hF rfl (by kernel_rfl) (by kernel_rfl) (roO 6 rfl) (by kernel_rfl) (pr_fst (k := k) (by omega) (by omega))) fun a w hF hM => ?_
              exact ⟨bb15, ((hF.repl 26 (by kernel_rfl)).cast (by kernel_rfl)), (hM.cast (by kernel_rfl))⟩
            · intro s0 s1 s2 s3 s4 s5 s6 s7 s8 s9 s10 s11 s12 s13 s14 s15 s16 s17 s18 s19 s20 s21 hc hi hp a w hS
              obtain rfl : s7 = false := hi
              obtain ⟨bb15, hF, hM⟩ := hS
              refine eP 56 (v0 := .int .i64 0) (v := .int .i64 0) hF (by kernel_rfl) (fun _ => by kernel_rfl) rfl fun a hF => ?_
              exact ⟨bb15, ((hF.repl 27 (by kernel_rfl)).cast (by kernel_rfl)), (hM.cast (by kernel_rfl))⟩
            · intro s0 s1 s2 s3 s4 s5 s6 s7 s8 s9 s10 s11 s12 s13 s14 s15 s16 s17 s18 s19 s20 s21 hc hi hp a w hS
              obtain rfl : s8 = false := hi
              obtain ⟨bb15, hF, hM⟩ := hS
              refine eP 57 (v0 := .slice AA3 lcr.length cc3) (v := .slice AA3 lcr.length cc3) hF (by kernel_rfl) (fun _ => by kernel_rfl) rfl fun a hF => ?_
              exact ⟨bb15, ((hF.repl 28 (by kernel_rfl)).cast (by kernel_rfl)), (hM.cast (by kernel_rfl))⟩
            · intro s0 s1 s2 s3 s4 s5 s6 s7 s8 s9 s10 s11 s12 s13 s14 s15 s16 s17 s18 s19 s20 s21 hc hi hp a w hS
              obtain rfl : s9 = false := hi
              obtain ⟨bb15, hF, hM⟩ := hS
              refine eP 58 (v0 := .int .i64 (k : Int)) (v := .int .i64 (k : Int)) hF (by kernel_rfl) (fun _ => by kernel_rfl) rfl fun a hF => ?_
              exact ⟨bb15, ((hF.repl 29 (by kernel_rfl)).cast (by kernel_rfl)), (hM.cast (by kernel_rfl))⟩
            · intro s0 s1 s2 s3 s4 s5 s6 s7 s8 s9 s10 s11 s12 s13 s14 s15 s16 s17 s18 s19 s20 s21 hc hi hp a w hS
              obtain rfl : s10 = false := hi
              obtain rfl : s9 = true := hp 9 (by kernel_rfl)
              obtain rfl : s8 = true := hp 8 (by kernel_rfl)
              obtain ⟨bb15, hF, hM⟩ := hS
              refine eM 59 (v := .pointer (some (ea AA3 (k * 2)))) hF hM (by kernel_rfl) (yld_ix (kd := .i64) (e := 57) (len := lcr.length) (cap := cc3) (i := (k : Int)) (size := 2) (A := AA3) hF rfl (by kernel_rfl) (by kernel_rfl) (by kernel_rfl) (by kernel_rfl) (by kernel_rfl) (roO 6 rfl) (by omega) (by omega) (by rw [flat2_length]; omega)) fun a w hF hM => ?_
              exact ⟨bb15, ((hF.repl 30 (by kernel_rfl)).cast (by kernel_rfl)), (hM.cast (by kernel_rfl))⟩
            · intro s0 s1 s2 s3 s4 s5 s6 s7 s8 s9 s10 s11 s12 s13 s14 s15 s16 s17 s18 s19 s20 s21 hc hi hp a w hS
              obtain rfl : s11 = false := hi
              obtain rfl : s10 = true := hp 10 (by kernel_rfl)
              obtain ⟨bb15, hF, hM⟩ := hS
              refine eP 60 (v0 := .pointer (some (ea AA3 (k * 2 + 1)))) (v := .pointer (some (ea AA3 (k * 2 + 1)))) hF (by kernel_rfl) (fun _ => by kernel_rfl) rfl fun a hF => ?_
              exact ⟨bb15, ((hF.repl 31 (by kernel_rfl)).cast (by kernel_rfl)), (hM.cast (by kernel_rfl))⟩
            · intro s0 s1 s2 s3 s4 s5 s6 s7 s8 s9 s10 s11 s12 s13 s14 s15 s16 s17 s18 s19 s20 s21 hc hi hp a w hS
              obtain rfl : s12 = false := hi
              obtain rfl : s11 = true := hp 11 (by kernel_rfl)
              obtain ⟨bb15, hF, hM⟩ := hS
              refine eM 61 (v := .int .i64 (pr lcr k).2) hF hM (by kernel_rfl) (yld_ro1 (A := AA3) (j := k * 2 + 1) hF rfl (by kernel_rfl) (by kernel_rfl) (roO 6 rfl) (by kernel_rfl) (pr_snd (k := k) (by omega) (by omega))) fun a w hF hM => ?_
              exact ⟨bb15, ((hF.repl 32 (by kernel_rfl)).cast (by kernel_rfl)), (hM.cast (by kernel_rfl))⟩
            · intro s0 s1 s2 s3 s4 s5 s6 s7 s8 s9 s10 s11 s12 s13 s14 s15 s16 s17 s18 s19 s20 s21 hc hi hp a w hS
              obtain rfl : s13 = false := hi
              obtain rfl : s12 = true := hp 12 (by kernel_rfl)
              obtain rfl : s7 = true := hp 7 (by kernel_rfl)
              obtain rfl : s6 = true := hp 6 (by kernel_rfl)
              obtain rfl : s1 = true := hp 1 (by kernel_rfl)
              obtain rfl : s0 = true := hp 0 (by kernel_rfl)
              obtain ⟨bb15, hF, hM⟩ := hS
              refine eM 62 (v := .tuple #[.int .i64 sst, .agg #[.int .i64 sat, .int .i64 slv], .int .i64 see]) hF hM (by kernel_rfl) (yld_call (f := 20) (args := #[.agg #[.int .i64 srt, .int .i64 spr], .agg #[.int .i64 aa, .int .i64 bl], .int .i64 (pr lcr k).1, .int .i64 0, .int .i64 (pr lcr k).2]) hF (by kernel_rfl) (fun _ => by kernel_rfl) (fun w hM => by rw [e_sst, e_sat, e_slv, e_see]; exact crStep_w srt spr aa bl (pr lcr k).1 0 (pr lcr k).2 w)) fun a w hF hM => ?_
              exact ⟨bb15, ((hF.repl 33 (by kernel_rfl)).cast (by kernel_rfl)), (hM.cast (by kernel_rfl))⟩
            · intro s0 s1 s2 s3 s4 s5 s6 s7 s8 s9 s10 s11 s12 s13 s14 s15 s16 s17 s18 s19 s20 s21 hc hi hp a w hS
              obtain rfl : s14 = false := hi
              obtain rfl : s13 = true := hp 13 (by kernel_rfl)
              obtain ⟨bb15, hF, hM⟩ := hS
              refine eP 48 (v0 := .tuple #[.int .i64 sst, .agg #[.int .i64 sat, .int .i64 slv], .int .i64 see]) (v := .tuple #[.int .i64 sst, .agg #[.int .i64 sat, .int .i64 slv], .int .i64 see]) hF (by kernel_rfl) (fun _ => by kernel_rfl) rfl fun a hF => ?_
              exact ⟨bb15, ((hF.repl 19 (by kernel_rfl)).cast (by kernel_rfl)), (hM.cast (by kernel_rfl))⟩
            · intro s0 s1 s2 s3 s4 s5 s6 s7 s8 s9 s10 s11 s12 s13 s14 s15 s16 s17 s18 s19 s20 s21 hc hi hp a w hS
              obtain rfl : s15 = false := hi
              obtain rfl : s14 = true := hp 14 (by kernel_rfl)
              obtain ⟨bb15, hF, hM⟩ := hS
              refine eP 63 (v0 := .int .i64 sst) (v := .int .i64 sst) hF (by kernel_rfl) (fun _ => by kernel_rfl) rfl fun a hF => ?_
              exact ⟨bb15, ((hF.repl 34 (by kernel_rfl)).cast (by kernel_rfl)), (hM.cast (by kernel_rfl))⟩
            · intro s0 s1 s2 s3 s4 s5 s6 s7 s8 s9 s10 s11 s12 s13 s14 s15 s16 s17 s18 s19 s20 s21 hc hi hp a w hS
              obtain rfl : s16 = false := hi
              obtain rfl : s14 = true := hp 14 (by kernel_rfl)
              obtain ⟨bb15, hF, hM⟩ := hS
              refine eP 64 (v0 := .agg #[.int .i64 sat, .int .i64 slv]) (v := .agg #[.int .i64 sat, .int .i64 slv]) hF (by kernel_rfl) (fun _ => by kernel_rfl) rfl fun a hF => ?_
              exact ⟨bb15, ((hF.repl 35 (by kernel_rfl)).cast (by kernel_rfl)), (hM.cast (by kernel_rfl))⟩
            · intro s0 s1 s2 s3 s4 s5 s6 s7 s8 s9 s10 s11 s12 s13 s14 s15 s16 s17 s18 s19 s20 s21 hc hi hp a w hS
              obtain rfl : s17 = false := hi
              obtain rfl : s14 = true := hp 14 (by kernel_rfl)
              obtain ⟨bb15, hF, hM⟩ := hS
              refine eP 65 (v0 := .int .i64 see) (v := .int .i64 see) hF (by kernel_rfl) (fun _ => by kernel_rfl) rfl fun a hF => ?_
              exact ⟨bb15, ((hF.repl 36 (by kernel_rfl)).cast (by kernel_rfl)), (hM.cast (by kernel_rfl))⟩
            · intro s0 s1 s2 s3 s4 s5 s6 s7 s8 s9 s10 s11 s12 s13 s14 s15 s16 s17 s18 s19 s20 s21 hc hi hp a w hS
              obtain rfl : s18 = false := hi
              obtain rfl : s20 = false := hc.f 20 18 (by kernel_rfl) rfl
              obtain ⟨bb15, hF, hM⟩ := hS
              refine eN 15 16 (t := 40) (fun b => .pointer (some ⟨b, 0, none⟩)) #[.int .i64 0, .int .i64 0] hF hM (by kernel_rfl) (fun _ => by kernel_rfl) fun bb15 a w hF hM => ?_
              exact ⟨bb15, ((hF.repl 9 (by kernel_rfl)).cast (by kernel_rfl)), ((hM.repl 8 (by kernel_rfl)).cast (by kernel_rfl))⟩
            · intro s0 s1 s2 s3 s4 s5 s6 s7 s8 s9 s10 s11 s12 s13 s14 s15 s16 s17 s18 s19 s20 s21 hc hi hp a w hS
              obtain rfl : s19 = false := hi
              obtain rfl : s15 = true := hp 15 (by kernel_rfl)
              obtain ⟨bb15, hF, hM⟩ := hS
              refine eP 14 (v0 := .int .i64 sst) (v := .int .i64 sst) hF (by kernel_rfl) (fun _ => by kernel_rfl) rfl fun a hF => ?_
              exact ⟨bb15, ((hF.repl 8 (by kernel_rfl)).cast (by kernel_rfl)), (hM.cast (by kernel_rfl))⟩
            · intro s0 s1 s2 s3 s4 s5 s6 s7 s8 s9 s10 s11 s12 s13 s14 s15 s16 s17 s18 s19 s20 s21 hc hi hp a w hS
              obtain rfl : s20 = false := hi
              obtain rfl : s18 = true := hp 18 (by kernel_rfl)
              obtain rfl : s16 = true := hp 16 (by kernel_rfl)
              obtain ⟨bb15, hF, hM⟩ := hS
              refine sStore (i := 16) (off := 0) (cs' := #[.int .i64 sat, .int .i64 slv]) hF hM (by kernel_rfl) rfl rfl (by kernel_rfl) (by kernel_rfl) rfl (by kernel_rfl) fun w hM => ?_
              exact ⟨bb15, (hF.cast (by kernel_rfl)), ((hM.repl 8 (by kernel_rfl)).cast (by kernel_rfl))⟩
            · intro s0 s1 s2 s3 s4 s5 s6 s7 s8 s9 s10 s11 s12 s13 s14 s15 s16 s17 s18 s19 s20 s21 hc hi hp a w hS
              obtain rfl : s21 = false := hi
              obtain rfl : s17 = true := hp 17 (by kernel_rfl)
              obtain ⟨bb15, hF, hM⟩ := hS
              refine eP 16 (v0 := .int .i64 see) (v := .int .i64 see) hF (by kernel_rfl) (fun _ => by kernel_rfl) rfl fun a hF => ?_
              exact ⟨bb15, ((hF.repl 10 (by kernel_rfl)).cast (by kernel_rfl)), (hM.cast (by kernel_rfl))⟩
          · intro a w hS
            obtain ⟨bb15, hF, hM⟩ := hS
            replace hF : Fr 196 [(2, some (.slice Fa free.length cf)), (7, some (.pointer (some ⟨bb4, 0, none⟩))), (8, some (.slice AA3 lcr.length cc3)), (9, some (.slice G1 k c1)), (10, some (.slice G2 k c2)), (11, some (.pointer (some ⟨bb5, 0, none⟩))), (12, some (.int .i64 (k : Int))), (13, some (.int .i64 0)), (14, some (.int .i64 sst)), (15, some (.pointer (some ⟨bb15, 0, none⟩))), (16, some (.int .i64 see)), (32, some (.int .i64 (k : Int))), (33, some (.slice AA3 lcr.length cc3)), (34, some (.int .i64 (lcr.length : Int))), (35, some (.bool true)), (38, some (.int .i64 (k : Int))), (39, some (.slice Fa free.length cf)), (40, some (.int .i64 (free.length : Int))), (41, some (.bool false)), (48, some (.tuple #[.int .i64 sst, .agg #[.int .i64 sat, .int .i64 slv], .int .i64 see])), (49, some (.agg #[.int .i64 srt, .int .i64 spr])), (50, some (.agg #[.int .i64 aa, .int .i64 bl])), (51, some (.slice AA3 lcr.length cc3)), (52, some (.int .i64 (k : Int))), (53, some (.pointer (some (ea AA3 (k * 2))))), (54, some (.pointer (some (ea AA3 (k * 2))))), (55, some (.int .i64 (pr lcr k).1)), (56, some (.int .i64 0)), (57, some (.slice AA3 lcr.length cc3)), (58, some (.int .i64 (k : Int))), (59, some (.pointer (some (ea AA3 (k * 2))))), (60, some (.pointer (some (ea AA3 (k * 2 + 1))))), (61, some (.int .i64 (pr lcr k).2)), (62, some (.tuple #[.int .i64 sst, .agg #[.int .i64 sat, .int .i64 slv], .int .i64 see])), (63, some (.int .i64 sst)), (64, some (.agg #[.int .i64 sat, .int .i64 slv])), (65, some (.int .i64 see))] a := hF.cast (by kernel_rfl)
            replace hM : Mem w0.heap.size w0 [(1, some (.ro Ga (gaps.map (Value.int .u16)))), (2, some (.ro Sa (sizes.map (Value.int .u16)))), (3, some (.ro Fa (free.map (Value.int .u16)))), (6, some (.own (.slice AA3 lcr.length cc3) 57 2 lcr.length (flat2 lcr))), (7, some (.row bb4 23 #[.int .i64 srt, .int .i64 spr])), (8, some (.row bb5 40 #[.int .i64 aa, .int .i64 bl])), (9, some (.own (.slice G1 k c1) 3 1 k (SS.map (Value.int .i64)))), (10, some (.own (.slice G2 k c2) 3 1 k (LL.map (Value.int .i64)))), (16, some (.row bb15 40 #[.int .i64 sat, .int .i64 slv]))] w := hM.cast (by kernel_rfl)
            refine hK26 _ _ ?_
            refine wp_seq_k fun K27 hK27 => ?_
            refine wp_seq_k fun K28 hK28 => ?_
            refine wp_region_lit ?_
            refine sB 2 [(66, .int .i64 see), (67, .bool (!decide (see = 0)))] hF (by kernel_rfl) fun a hF => ?_
            refine wpList_nil ?_
            refine hK28 _ _ ?_
            by_cases hz11 : see = 0
            · skip
              replace hF := hF.c hF (i := 67) (v := .bool false) rfl (nT hz11)
              refine cF hF (by kernel_rfl) (by kernel_rfl) ?_
              refine wp_skip ?_
              refine hK27 _ _ ?_
              refine wp_seq_k fun K29 hK29 => ?_
              have hse : see = 0 := by omega
              have hcs := cst_ok (e_see.symm.trans hse)
              rw [← e_sst, ← e_sat, ← e_slv] at hcs
              have hstn : stateB sat slv = true := by rw [hcs.2.1, hcs.2.2]; exact cst_state (free := 0) hslo hSh.st htim hfre hprk.2.2.1 hprk.2.2.2 (e_see.symm.trans hse)
              have hsf := step_facts (free := 0) (slopeB_of hslo) hSh.st htim hfre hprk.2.2.1 hprk.2.2.2
              have hnx := hSh.next (f := 0) (t := (pr lcr k).1) (s := (pr lcr k).2) (pr_some (by omega)) (slopeB_of hslo) htim hfre hprk.2.2.1 hprk.2.2.2 (by rw [← hcs.2.1, ← hcs.2.2]; exact hstn)
              have hlev : startLevel srt aa bl (pr lcr k).1 (0) = slv - (srt * spr - 1048576) * (pr lcr k).2 := by rw [hcs.2.2, stepLevel_eq]; omega
              rw [hlev, ← hcs.1, ← hcs.2.1, ← hcs.2.2] at hsf hnx
              have hstb := stateB_iff.1 hstn
              refine rQ hM (by kernel_rfl) (by kernel_rfl) ?_
              refine eQ 70 (v0 := .pointer (some ⟨bb15, 1, none⟩)) (v := .pointer (some ⟨bb15, 1, none⟩)) hF (by kernel_rfl) (fun _ => by kernel_rfl) rfl fun a hF => ?_
              refine eQL 71 16 1 (v := .int .i64 slv) hF (by kernel_rfl) rfl rfl (by kernel_rfl) (by kernel_rfl) fun a hF => ?_
              refine eQ 72 (v0 := .pointer (some ⟨bb4, 0, none⟩)) (v := .pointer (some ⟨bb4, 0, none⟩)) hF (by kernel_rfl) (fun _ => by kernel_rfl) rfl fun a hF => ?_
              refine eQL 73 7 0 (v := .int .i64 srt) hF (by kernel_rfl) rfl rfl (by kernel_rfl) (by kernel_rfl) fun a hF => ?_
              refine eQ 74 (v0 := .pointer (some ⟨bb4, 1, none⟩)) (v := .pointer (some ⟨bb4, 1, none⟩)) hF (by kernel_rfl) (fun _ => by kernel_rfl) rfl fun a hF => ?_
              refine eQL 75 7 1 (v := .int .i64 spr) hF (by kernel_rfl) rfl rfl (by kernel_rfl) (by kernel_rfl) fun a hF => ?_
              have hz12 : 1 ≤ srt * spr ∧ srt * spr ≤ 1048575000 := mul_bd (1) (1048575) (1) (1000) (by omega) (by omega) (by omega) (by omega) (by decide)
              refine eQ 76 (v0 := .int .i64 (IntKind.i64.wrap (srt * spr))) (v := .int .i64 (srt * spr)) hF (by kernel_rfl) (fun _ => by kernel_rfl) (wi (by omega)) fun a hF => ?_
              refine eQ 77 (v0 := .int .i64 (IntKind.i64.wrap (srt * spr - 1048576))) (v := .int .i64 (srt * spr - 1048576)) hF (by kernel_rfl) (fun _ => by kernel_rfl) (wi (by omega)) fun a hF => ?_
              refine eQ 78 (v0 := .slice AA3 lcr.length cc3) (v := .slice AA3 lcr.length cc3) hF (by kernel_rfl) (fun _ => by kernel_rfl) rfl fun a hF => ?_
              refine eQ 79 (v0 := .int .i64 (k : Int)) (v := .int .i64 (k : Int)) hF (by kernel_rfl) (fun _ => by kernel_rfl) rfl fun a hF => ?_
              refine eQ2 80 (v := .pointer (some (ea AA3 (k * 2)))) hF (by kernel_rfl) (yld_ix (kd := .i64) (e := 57) (len := lcr.length) (cap := cc3) (i := (k : Int)) (size := 2) (A := AA3) hF rfl (by kernel_rfl) (by kernel_rfl) (by kernel_rfl) (by kernel_rfl) (by kernel_rfl) (roO 6 rfl) (by omega) (by omega) (by rw [flat2_length]; omega)) fun a hF => ?_
              refine eQ 81 (v0 := .pointer (some (ea AA3 (k * 2 + 1)))) (v := .pointer (some (ea AA3 (k * 2 + 1)))) hF (by kernel_rfl) (fun _ => by kernel_rfl) rfl fun a hF => ?_
              refine eQ2 82 (v := .int .i64 (pr lcr k).2) hF (by kernel_rfl) (yld_ro1 (A := AA3) (j := k * 2 + 1) hF rfl (by kernel_rfl) (by kernel_rfl) (roO 6 rfl) (by kernel_rfl) (pr_snd (k := k) (by omega) (by omega))) fun a hF => ?_
              refine eQ 83 (v0 := .int .i64 (IntKind.i64.wrap ((srt * spr - 1048576) * (pr lcr k).2))) (v := .int .i64 ((srt * spr - 1048576) * (pr lcr k).2)) hF (by kernel_rfl) (fun _ => by kernel_rfl) (wi (by omega)) fun a hF => ?_
              refine eQ 84 (v0 := .int .i64 (IntKind.i64.wrap (slv - (srt * spr - 1048576) * (pr lcr k).2))) (v := .int .i64 (slv - (srt * spr - 1048576) * (pr lcr k).2)) hF (by kernel_rfl) (fun _ => by kernel_rfl) (wi (by omega)) fun a hF => ?_
              refine eQ 17 (v0 := .int .i64 (slv - (srt * spr - 1048576) * (pr lcr k).2)) (v := .int .i64 (slv - (srt * spr - 1048576) * (pr lcr k).2)) hF (by kernel_rfl) (fun _ => by kernel_rfl) rfl fun a hF => ?_
              refine wpQuiet_nil ?_
              intro w hM
              refine hK29 _ _ ?_
              refine wp_seq_k fun K30 hK30 => ?_
              refine wp_seq_k fun K31 hK31 => ?_
              refine rQ hM (by kernel_rfl) (by kernel_rfl) ?_
              refine eQ 85 (v0 := .int .i64 (slv - (srt * spr - 1048576) * (pr lcr k).2)) (v := .int .i64 (slv - (srt * spr - 1048576) * (pr lcr k).2)) hF (by kernel_rfl) (fun _ => by kernel_rfl) rfl fun a hF => ?_
              refine eQ 86 (v0 := .bool (decide (slv - (srt * spr - 1048576) * (pr lcr k).2 < 0))) (v := .bool false) hF (by kernel_rfl) (fun _ => by kernel_rfl) (bF (by omega)) fun a hF => ?_
              refine eQ 87 (v0 := .bool false) (v := .bool false) hF (by kernel_rfl) (fun _ => by kernel_rfl) rfl fun a hF => ?_
              refine eQ 88 (v0 := .pointer (some ⟨bb15, 1, none⟩)) (v := .pointer (some ⟨bb15, 1, none⟩)) hF (by kernel_rfl) (fun _ => by kernel_rfl) rfl fun a hF => ?_
              refine eQL 89 16 1 (v := .int .i64 slv) hF (by kernel_rfl) rfl rfl (by kernel_rfl) (by kernel_rfl) fun a hF => ?_
              refine eQ 90 (v0 := .slice AA3 lcr.length cc3) (v := .slice AA3 lcr.length cc3) hF (by kernel_rfl) (fun _ => by kernel_rfl) rfl fun a hF => ?_
              refine eQ 91 (v0 := .int .i64 (k : Int)) (v := .int .i64 (k : Int)) hF (by kernel_rfl) (fun _ => by kernel_rfl) rfl fun a hF => ?_
              refine eQ2 92 (v := .pointer (some (ea AA3 (k * 2)))) hF (by kernel_rfl) (yld_ix (kd := .i64) (e := 57) (len := lcr.length) (cap := cc3) (i := (k : Int)) (size := 2) (A := AA3) hF rfl (by kernel_rfl) (by kernel_rfl) (by kernel_rfl) (by kernel_rfl) (by kernel_rfl) (roO 6 rfl) (by omega) (by omega) (by rw [flat2_length]; omega)) fun a hF => ?_
              refine eQ 93 (v0 := .pointer (some (ea AA3 (k * 2 + 1)))) (v := .pointer (some (ea AA3 (k * 2 + 1)))) hF (by kernel_rfl) (fun _ => by kernel_rfl) rfl fun a hF => ?_
              refine eQ2 94 (v := .int .i64 (pr lcr k).2) hF (by kernel_rfl) (yld_ro1 (A := AA3) (j := k * 2 + 1) hF rfl (by kernel_rfl) (by kernel_rfl) (roO 6 rfl) (by kernel_rfl) (pr_snd (k := k) (by omega) (by omega))) fun a hF => ?_
              refine eQ 95 (v0 := .int .i64 (IntKind.i64.wrap (-1048576 * (pr lcr k).2))) (v := .int .i64 (-1048576 * (pr lcr k).2)) hF (by kernel_rfl) (fun _ => by kernel_rfl) (wi (by omega)) fun a hF => ?_
              refine eQ 96 (v0 := .bool (decide (slv ≤ -1048576 * (pr lcr k).2))) (v := .bool false) hF (by kernel_rfl) (fun _ => by kernel_rfl) (bF (by omega)) fun a hF => ?_
              refine eQ 97 (v0 := .bool false) (v := .bool false) hF (by kernel_rfl) (fun _ => by kernel_rfl) rfl fun a hF => ?_
              refine eQ 98 (v0 := .bool false) (v := .bool false) hF (by kernel_rfl) (fun _ => by kernel_rfl) rfl fun a hF => ?_
              refine eQ 99 (v0 := .pointer (some ⟨bb15, 0, none⟩)) (v := .pointer (some ⟨bb15, 0, none⟩)) hF (by kernel_rfl) (fun _ => by kernel_rfl) rfl fun a hF => ?_
              refine eQL 100 16 0 (v := .int .i64 sat) hF (by kernel_rfl) rfl rfl (by kernel_rfl) (by kernel_rfl) fun a hF => ?_
              refine eQ 101 (v0 := .int .i64 sst) (v := .int .i64 sst) hF (by kernel_rfl) (fun _ => by kernel_rfl) rfl fun a hF => ?_
              refine eQ 102 (v0 := .slice AA3 lcr.length cc3) (v := .slice AA3 lcr.length cc3) hF (by kernel_rfl) (fun _ => by kernel_rfl) rfl fun a hF => ?_
              refine eQ 103 (v0 := .int .i64 (k : Int)) (v := .int .i64 (k : Int)) hF (by kernel_rfl) (fun _ => by kernel_rfl) rfl fun a hF => ?_
              refine eQ2 104 (v := .pointer (some (ea AA3 (k * 2)))) hF (by kernel_rfl) (yld_ix (kd := .i64) (e := 57) (len := lcr.length) (cap := cc3) (i := (k : Int)) (size := 2) (A := AA3) hF rfl (by kernel_rfl) (by kernel_rfl) (by kernel_rfl) (by kernel_rfl) (by kernel_rfl) (roO 6 rfl) (by omega) (by omega) (by rw [flat2_length]; omega)) fun a hF => ?_
              refine eQ 105 (v0 := .pointer (some (ea AA3 (k * 2 + 1)))) (v := .pointer (some (ea AA3 (k * 2 + 1)))) hF (by kernel_rfl) (fun _ => by kernel_rfl) rfl fun a hF => ?_
              refine eQ2 106 (v := .int .i64 (pr lcr k).2) hF (by kernel_rfl) (yld_ro1 (A := AA3) (j := k * 2 + 1) hF rfl (by kernel_rfl) (by kernel_rfl) (roO 6 rfl) (by kernel_rfl) (pr_snd (k := k) (by omega) (by omega))) fun a hF => ?_
              refine eQ 107 (v0 := .pointer (some ⟨bb4, 1, none⟩)) (v := .pointer (some ⟨bb4, 1, none⟩)) hF (by kernel_rfl) (fun _ => by kernel_rfl) rfl fun a hF => ?_
              refine eQL 108 7 1 (v := .int .i64 spr) hF (by kernel_rfl) rfl rfl (by kernel_rfl) (by kernel_rfl) fun a hF => ?_
              refine eQ 109 (v0 := .int .i64 (IntKind.i64.wrap ((pr lcr k).2 * spr))) (v := .int .i64 ((pr lcr k).2 * spr)) hF (by kernel_rfl) (fun _ => by kernel_rfl) (wi (by omega)) fun a hF => ?_
              refine eQ 110 (v0 := .int .i64 (IntKind.i64.wrap (sst + (pr lcr k).2 * spr))) (v := .int .i64 (sst + (pr lcr k).2 * spr)) hF (by kernel_rfl) (fun _ => by kernel_rfl) (wi (by omega)) fun a hF => ?_
              refine eQ 111 (v0 := .bool (!decide (sat = sst + (pr lcr k).2 * spr))) (v := .bool false) hF (by kernel_rfl) (fun _ => by kernel_rfl) (nT (by omega)) fun a hF => ?_
              refine eQ 112 (v0 := .bool false) (v := .bool false) hF (by kernel_rfl) (fun _ => by kernel_rfl) rfl fun a hF => ?_
              refine eQ 113 (v0 := .bool false) (v := .bool false) hF (by kernel_rfl) (fun _ => by kernel_rfl) rfl fun a hF => ?_
              refine eQ 114 (v0 := .int .i64 sst) (v := .int .i64 sst) hF (by kernel_rfl) (fun _ => by kernel_rfl) rfl fun a hF => ?_
              refine eQ 115 (v0 := .int .i64 0) (v := .int .i64 0) hF (by kernel_rfl) (fun _ => by kernel_rfl) rfl fun a hF => ?_
              refine eQ 116 (v0 := .slice AA3 lcr.length cc3) (v := .slice AA3 lcr.length cc3) hF (by kernel_rfl) (fun _ => by kernel_rfl) rfl fun a hF => ?_
              refine eQ 117 (v0 := .int .i64 (k : Int)) (v := .int .i64 (k : Int)) hF (by kernel_rfl) (fun _ => by kernel_rfl) rfl fun a hF => ?_
              refine eQ2 118 (v := .pointer (some (ea AA3 (k * 2)))) hF (by kernel_rfl) (yld_ix (kd := .i64) (e := 57) (len := lcr.length) (cap := cc3) (i := (k : Int)) (size := 2) (A := AA3) hF rfl (by kernel_rfl) (by kernel_rfl) (by kernel_rfl) (by kernel_rfl) (by kernel_rfl) (roO 6 rfl) (by omega) (by omega) (by rw [flat2_length]; omega)) fun a hF => ?_
              refine eQ 119 (v0 := .pointer (some (ea AA3 (k * 2)))) (v := .pointer (some (ea AA3 (k * 2)))) hF (by kernel_rfl) (fun _ => by kernel_rfl) rfl fun a hF => ?_
              refine eQ2 120 (v := .int .i64 (pr lcr k).1) hF (by kernel_rfl) (yld_ro1 (A := AA3) (j := k * 2) hF rfl (by kernel_rfl) (by kernel_rfl) (roO 6 rfl) (by kernel_rfl) (pr_fst (k := k) (by omega) (by omega))) fun a hF => ?_
              refine eQ 121 (v0 := .pointer (some ⟨bb5, 0, none⟩)) (v := .pointer (some ⟨bb5, 0, none⟩)) hF (by kernel_rfl) (fun _ => by kernel_rfl) rfl fun a hF => ?_
              refine eQL 122 8 0 (v := .int .i64 aa) hF (by kernel_rfl) rfl rfl (by kernel_rfl) (by kernel_rfl) fun a hF => ?_
              refine eQ 123 (v0 := .int .i64 (if aa > (pr lcr k).1 then aa else (pr lcr k).1)) (v := .int .i64 (max (pr lcr k).1 aa)) hF (by kernel_rfl) (fun _ => by kernel_rfl) (vi (max_if _ _)) fun a hF => ?_
              refine eQ 124 (v0 := .int .i64 (if max (pr lcr k).1 aa > 0 then max (pr lcr k).1 aa else 0)) (v := .int .i64 (max 0 (max (pr lcr k).1 aa))) hF (by kernel_rfl) (fun _ => by kernel_rfl) (vi (max_if _ _)) fun a hF => ?_
              refine eQ 125 (v0 := .bool (decide (sst < max 0 (max (pr lcr k).1 aa)))) (v := .bool false) hF (by kernel_rfl) (fun _ => by kernel_rfl) (bF (by omega)) fun a hF => ?_
              refine eQ 126 (v0 := .bool false) (v := .bool false) hF (by kernel_rfl) (fun _ => by kernel_rfl) rfl fun a hF => ?_
              refine wpQuiet_nil ?_
              intro w hM
              refine hK31 _ _ ?_
              refine cF hF (by kernel_rfl) (by kernel_rfl) ?_
              refine wp_skip ?_
              refine hK30 _ _ ?_
              refine wp_seq_k fun K32 hK32 => ?_
              refine wp_seq_k fun K33 hK33 => ?_
              by_cases hz13 : max 0 (max (pr lcr k).1 aa) < sst
              · skip
                refine rQ hM (by kernel_rfl) (by kernel_rfl) ?_
                refine eQ 127 (v0 := .int .i64 sst) (v := .int .i64 sst) hF (by kernel_rfl) (fun _ => by kernel_rfl) rfl fun a hF => ?_
                refine eQ 128 (v0 := .int .i64 0) (v := .int .i64 0) hF (by kernel_rfl) (fun _ => by kernel_rfl) rfl fun a hF => ?_
                refine eQ 129 (v0 := .slice AA3 lcr.length cc3) (v := .slice AA3 lcr.length cc3) hF (by kernel_rfl) (fun _ => by kernel_rfl) rfl fun a hF => ?_
                refine eQ 130 (v0 := .int .i64 (k : Int)) (v := .int .i64 (k : Int)) hF (by kernel_rfl) (fun _ => by kernel_rfl) rfl fun a hF => ?_
                refine eQ2 131 (v := .pointer (some (ea AA3 (k * 2)))) hF (by kernel_rfl) (yld_ix (kd := .i64) (e := 57) (len := lcr.length) (cap := cc3) (i := (k : Int)) (size := 2) (A := AA3) hF rfl (by kernel_rfl) (by kernel_rfl) (by kernel_rfl) (by kernel_rfl) (by kernel_rfl) (roO 6 rfl) (by omega) (by omega) (by rw [flat2_length]; omega)) fun a hF => ?_
                refine eQ 132 (v0 := .pointer (some (ea AA3 (k * 2)))) (v := .pointer (some (ea AA3 (k * 2)))) hF (by kernel_rfl) (fun _ => by kernel_rfl) rfl fun a hF => ?_
                refine eQ2 133 (v := .int .i64 (pr lcr k).1) hF (by kernel_rfl) (yld_ro1 (A := AA3) (j := k * 2) hF rfl (by kernel_rfl) (by kernel_rfl) (roO 6 rfl) (by kernel_rfl) (pr_fst (k := k) (by omega) (by omega))) fun a hF => ?_
                refine eQ 134 (v0 := .pointer (some ⟨bb5, 0, none⟩)) (v := .pointer (some ⟨bb5, 0, none⟩)) hF (by kernel_rfl) (fun _ => by kernel_rfl) rfl fun a hF => ?_
                refine eQL 135 8 0 (v := .int .i64 aa) hF (by kernel_rfl) rfl rfl (by kernel_rfl) (by kernel_rfl) fun a hF => ?_
                refine eQ 136 (v0 := .int .i64 (if aa > (pr lcr k).1 then aa else (pr lcr k).1)) (v := .int .i64 (max (pr lcr k).1 aa)) hF (by kernel_rfl) (fun _ => by kernel_rfl) (vi (max_if _ _)) fun a hF => ?_
                refine eQ 137 (v0 := .int .i64 (if max (pr lcr k).1 aa > 0 then max (pr lcr k).1 aa else 0)) (v := .int .i64 (max 0 (max (pr lcr k).1 aa))) hF (by kernel_rfl) (fun _ => by kernel_rfl) (vi (max_if _ _)) fun a hF => ?_
                refine eQ 138 (v0 := .bool (decide (max 0 (max (pr lcr k).1 aa) < sst))) (v := .bool true) hF (by kernel_rfl) (fun _ => by kernel_rfl) (bT hz13) fun a hF => ?_
                refine eQ 139 (v0 := .bool true) (v := .bool true) hF (by kernel_rfl) (fun _ => by kernel_rfl) rfl fun a hF => ?_
                refine eQ 140 (v0 := .int .i64 (slv - (srt * spr - 1048576) * (pr lcr k).2)) (v := .int .i64 (slv - (srt * spr - 1048576) * (pr lcr k).2)) hF (by kernel_rfl) (fun _ => by kernel_rfl) rfl fun a hF => ?_
                refine eQ 141 (v0 := .pointer (some ⟨bb4, 0, none⟩)) (v := .pointer (some ⟨bb4, 0, none⟩)) hF (by kernel_rfl) (fun _ => by kernel_rfl) rfl fun a hF => ?_
                refine eQL 142 7 0 (v := .int .i64 srt) hF (by kernel_rfl) rfl rfl (by kernel_rfl) (by kernel_rfl) fun a hF => ?_
                refine eQ 143 (v0 := .bool (decide (srt ≤ slv - (srt * spr - 1048576) * (pr lcr k).2))) (v := .bool (decide (srt ≤ slv - (srt * spr - 1048576) * (pr lcr k).2))) hF (by kernel_rfl) (fun _ => by kernel_rfl) rfl fun a hF => ?_
                refine eQ 144 (v0 := .bool (decide (srt ≤ slv - (srt * spr - 1048576) * (pr lcr k).2))) (v := .bool (decide (srt ≤ slv - (srt * spr - 1048576) * (pr lcr k).2))) hF (by kernel_rfl) (fun _ => by kernel_rfl) rfl fun a hF => ?_
                refine wpQuiet_nil ?_
                intro w hM
                refine hK33 _ _ ?_
                by_cases hz14 : srt ≤ slv - (srt * spr - 1048576) * (pr lcr k).2
                · skip
                  replace hF := hF.c hF (i := 143) (v := .bool true) rfl (bT hz14)
                  replace hF := hF.c hF (i := 144) (v := .bool true) rfl (bT hz14)
                  refine cT hF (by kernel_rfl) (by kernel_rfl) ?_
                  refine wp_seq_k fun K34 hK34 => ?_
                  refine wp_region_lit ?_
                  refine sB 1 [(6, .bool false)] hF (by kernel_rfl) fun a hF => ?_
                  refine wpList_nil ?_
                  refine hK34 _ _ ?_
                  refine wp_ret ?_
                  refine hR0 _ _ ?_
                  refine ret_of hF hM (.tmp rfl (.nil)) ?_
                  exact absurd hsf (by omega)
                · skip
                  replace hF := hF.c hF (i := 143) (v := .bool false) rfl (bF hz14)
                  replace hF := hF.c hF (i := 144) (v := .bool false) rfl (bF hz14)
                  refine cF hF (by kernel_rfl) (by kernel_rfl) ?_
                  refine wp_skip ?_
                  refine hK32 _ _ ?_
                  refine rF (by kernel_rfl) (by kernel_rfl) (fun S a w => ∃ bb16 : Nat, ∃ AA17 : Option Addr, ∃ cc17 : Nat, ∃ bb18 : Nat, ∃ AA19 : Option Addr, ∃ cc19 : Nat, Fr 196 [(2, some (.slice Fa free.length cf)), (7, some (.pointer (some ⟨bb4, 0, none⟩))), (8, some (.slice AA3 lcr.length cc3)), (9, (cond (S.getD 9 false) (some (.slice AA17 (k + 1) cc17)) (some (.slice G1 k c1)))), (10, (cond (S.getD 10 false) (some (.slice AA19 (k + 1) cc19)) (some (.slice G2 k c2)))), (11, some (.pointer (some ⟨bb5, 0, none⟩))), (12, some (.int .i64 (k : Int))), (13, some (.int .i64 0)), (14, some (.int .i64 sst)), (15, some (.pointer (some ⟨bb15, 0, none⟩))), (16, some (.int .i64 see)), (17, some (.int .i64 (slv - (srt * spr - 1048576) * (pr lcr k).2))), (32, some (.int .i64 (k : Int))), (33, some (.slice AA3 lcr.length cc3)), (34, some (.int .i64 (lcr.length : Int))), (35, some (.bool true)), (38, some (.int .i64 (k : Int))), (39, some (.slice Fa free.length cf)), (40, some (.int .i64 (free.length : Int))), (41, some (.bool false)), (48, some (.tuple #[.int .i64 sst, .agg #[.int .i64 sat, .int .i64 slv], .int .i64 see])), (49, some (.agg #[.int .i64 srt, .int .i64 spr])), (50, some (.agg #[.int .i64 aa, .int .i64 bl])), (51, some (.slice AA3 lcr.length cc3)), (52, some (.int .i64 (k : Int))), (53, some (.pointer (some (ea AA3 (k * 2))))), (54, some (.pointer (some (ea AA3 (k * 2))))), (55, some (.int .i64 (pr lcr k).1)), (56, some (.int .i64 0)), (57, some (.slice AA3 lcr.length cc3)), (58, some (.int .i64 (k : Int))), (59, some (.pointer (some (ea AA3 (k * 2))))), (60, some (.pointer (some (ea AA3 (k * 2 + 1))))), (61, some (.int .i64 (pr lcr k).2)), (62, some (.tuple #[.int .i64 sst, .agg #[.int .i64 sat, .int .i64 slv], .int .i64 see])), (63, some (.int .i64 sst)), (64, some (.agg #[.int .i64 sat, .int .i64 slv])), (65, some (.int .i64 see)), (66, some (.int .i64 see)), (67, some (.bool false)), (70, some (.pointer (some ⟨bb15, 1, none⟩))), (71, some (.int .i64 slv)), (72, some (.pointer (some ⟨bb4, 0, none⟩))), (73, some (.int .i64 srt)), (74, some (.pointer (some ⟨bb4, 1, none⟩))), (75, some (.int .i64 spr)), (76, some (.int .i64 (srt * spr))), (77, some (.int .i64 (srt * spr - 1048576))), (78, some (.slice AA3 lcr.length cc3)), (79, some (.int .i64 (k : Int))), (80, some (.pointer (some (ea AA3 (k * 2))))), (81, some (.pointer (some (ea AA3 (k * 2 + 1))))), (82, some (.int .i64 (pr lcr k).2)), (83, some (.int .i64 ((srt * spr - 1048576) * (pr lcr k).2))), (84, some (.int .i64 (slv - (srt * spr - 1048576) * (pr lcr k).2))), (85, some (.int .i64 (slv - (srt * spr - 1048576) * (pr lcr k).2))), (86, some (.bool false)), (87, some (.bool false)), (88, some (.pointer (some ⟨bb15, 1, none⟩))), (89, some (.int .i64 slv)), (90, some (.slice AA3 lcr.length cc3)), (91, some (.int .i64 (k : Int))), (92, some (.pointer (some (ea AA3 (k * 2))))), (93, some (.pointer (some (ea AA3 (k * 2 + 1))))), (94, some (.int .i64 (pr lcr k).2)), (95, some (.int .i64 (-1048576 * (pr lcr k).2))), (96, some (.bool false)), (97, some (.bool false)), (98, some (.bool false)), (99, some (.pointer (some ⟨bb15, 0, none⟩))), (100, some (.int .i64 sat)), (101, some (.int .i64 sst)), (102, some (.slice AA3 lcr.length cc3)), (103, some (.int .i64 (k : Int))), (104, some (.pointer (some (ea AA3 (k * 2))))), (105, some (.pointer (some (ea AA3 (k * 2 + 1))))), (106, some (.int .i64 (pr lcr k).2)), (107, some (.pointer (some ⟨bb4, 1, none⟩))), (108, some (.int .i64 spr)), (109, some (.int .i64 ((pr lcr k).2 * spr))), (110, some (.int .i64 (sst + (pr lcr k).2 * spr))), (111, some (.bool false)), (112, some (.bool false)), (113, some (.bool false)), (114, some (.int .i64 sst)), (115, some (.int .i64 0)), (116, some (.slice AA3 lcr.length cc3)), (117, some (.int .i64 (k : Int))), (118, some (.pointer (some (ea AA3 (k * 2))))), (119, some (.pointer (some (ea AA3 (k * 2))))), (120, some (.int .i64 (pr lcr k).1)), (121, some (.pointer (some ⟨bb5, 0, none⟩))), (122, some (.int .i64 aa)), (123, some (.int .i64 (max (pr lcr k).1 aa))), (124, some (.int .i64 (max 0 (max (pr lcr k).1 aa)))), (125, some (.bool false)), (126, some (.bool false)), (127, some (.int .i64 sst)), (128, some (.int .i64 0)), (129, some (.slice AA3 lcr.length cc3)), (130, some (.int .i64 (k : Int))), (131, some (.pointer (some (ea AA3 (k * 2))))), (132, some (.pointer (some (ea AA3 (k * 2))))), (133, some (.int .i64 (pr lcr k).1)), (134, some (.pointer (some ⟨bb5, 0, none⟩))), (135, some (.int .i64 aa)), (136, some (.int .i64 (max (pr lcr k).1 aa))), (137, some (.int .i64 (max 0 (max (pr lcr k).1 aa)))), (138, some (.bool true)), (139, some (.bool true)), (140, some (.int .i64 (slv - (srt * spr - 1048576) * (pr lcr k).2))), (141, some (.pointer (some ⟨bb4, 0, none⟩))), (142, some (.int .i64 srt)), (143, some (.bool false)), (144, some (.bool false)), (145, (cond (S.getD 0 false) (some (.slice G1 k c1)) none)), (146, (cond (S.getD 1 false) (some (.int .i64 sst)) none)), (147, (cond (S.getD 2 false) (some (.slice (some ⟨bb16, 0, none⟩) 1 1)) none)), (148, (cond (S.getD 3 false) (some (.slice AA17 (k + 1) cc17)) none)), (149, (cond (S.getD 4 false) (some (.slice G2 k c2)) none)), (150, (cond (S.getD 5 false) (some (.int .i64 (slv - (srt * spr - 1048576) * (pr lcr k).2))) none)), (151, (cond (S.getD 6 false) (some (.slice (some ⟨bb18, 0, none⟩) 1 1)) none)), (152, (cond (S.getD 7 false) (some (.slice AA19 (k + 1) cc19)) none)), (153, (cond (S.getD 8 false) (some (.agg #[.int .i64 sat, .int .i64 slv])) none))] a ∧ Mem w0.heap.size w0 [(1, some (.ro Ga (gaps.map (Value.int .u16)))), (2, some (.ro Sa (sizes.map (Value.int .u16)))), (3, some (.ro Fa (free.map (Value.int .u16)))), (6, some (.own (.slice AA3 lcr.length cc3) 57 2 lcr.length (flat2 lcr))), (7, some (.row bb4 23 #[.int .i64 srt, .int .i64 spr])), (8, (cond (S.getD 11 false) (some (.row bb5 40 #[.int .i64 sat, .int .i64 slv])) (some (.row bb5 40 #[.int .i64 aa, .int .i64 bl])))), (9, (cond (S.getD 3 false) (some (.own (.slice AA17 (k + 1) cc17) 3 1 (k + 1) ((SS ++ [sst]).map (Value.int .i64)))) (some (.own (.slice G1 k c1) 3 1 k (SS.map (Value.int .i64)))))), (10, (cond (S.getD 7 false) (some (.own (.slice AA19 (k + 1) cc19) 3 1 (k + 1) ((LL ++ [slv - (srt * spr - 1048576) * (pr lcr k).2]).map (Value.int .i64)))) (some (.own (.slice G2 k c2) 3 1 k (LL.map (Value.int .i64)))))), (16, some (.row bb15 40 #[.int .i64 sat, .int .i64 slv])), (17, (cond (S.getD 2 false) (some (.row bb16 3 #[.int .i64 sst])) none)), (18, (cond (S.getD 6 false) (some (.row bb18 3 #[.int .i64 (slv - (srt * spr - 1048576) * (pr lcr k).2)])) none))] w) ?_ ?_ ?_
                  · exact ⟨0, none, 0, 0, none, 0, (((((((((((((((((((((((((((((((((((((((((((((((((((((((((((((((((((((((((((((((((((((((((((((((((((((((((((((((((((((((((((((Fr.nil hF).co hF (i := 153) (by kernel_rfl)).co hF (i := 152) (by kernel_rfl)).co hF (i := 151) (by kernel_rfl)).co hF (i := 150) (by kernel_rfl)).co hF (i := 149) (by kernel_rfl)).co hF (i := 148) (by kernel_rfl)).co hF (i := 147) (by kernel_rfl)).co hF (i := 146) (by kernel_rfl)).co hF (i := 145) (by kernel_rfl)).co hF (i := 144) (by kernel_rfl)).co hF (i := 143) (by kernel_rfl)).co hF (i := 142) (by kernel_rfl)).co hF (i := 141) (by kernel_rfl)).co hF (i := 140) (by kernel_rfl)).co hF (i := 139) (by kernel_rfl)).co hF (i := 138) (by kernel_rfl)).co hF (i := 137) (by kernel_rfl)).co hF (i := 136) (by kernel_rfl)).co hF (i := 135) (by kernel_rfl)).co hF (i := 134) (by kernel_rfl)).co hF (i := 133) (by kernel_rfl)).co hF (i := 132) (by kernel_rfl)).co hF (i := 131) (by kernel_rfl)).co hF (i := 130) (by kernel_rfl)).co hF (i := 129) (by kernel_rfl)).co hF (i := 128) (by kernel_rfl)).co hF (i := 127) (by kernel_rfl)).co hF (i := 126) (by kernel_rfl)).co hF (i := 125) (by kernel_rfl)).co hF (i := 124) (by kernel_rfl)).co hF (i := 123) (by kernel_rfl)).co hF (i := 122) (by kernel_rfl)).co hF (i := 121) (by kernel_rfl)).co hF (i := 120) (by kernel_rfl)).co hF (i := 119) (by kernel_rfl)).co hF (i := 118) (by kernel_rfl)).co hF (i := 117) (by kernel_rfl)).co hF (i := 116) (by kernel_rfl)).co hF (i := 115) (by kernel_rfl)).co hF (i := 114) (by kernel_rfl)).co hF (i := 113) (by kernel_rfl)).co hF (i := 112) (by kernel_rfl)).co hF (i := 111) (by kernel_rfl)).co hF (i := 110) (by kernel_rfl)).co hF (i := 109) (by kernel_rfl)).co hF (i := 108) (by kernel_rfl)).co hF (i := 107) (by kernel_rfl)).co hF (i := 106) (by kernel_rfl)).co hF (i := 105) (by kernel_rfl)).co hF (i := 104) (by kernel_rfl)).co hF (i := 103) (by kernel_rfl)).co hF (i := 102) (by kernel_rfl)).co hF (i := 101) (by kernel_rfl)).co hF (i := 100) (by kernel_rfl)).co hF (i := 99) (by kernel_rfl)).co hF (i := 98) (by kernel_rfl)).co hF (i := 97) (by kernel_rfl)).co hF (i := 96) (by kernel_rfl)).co hF (i := 95) (by kernel_rfl)).co hF (i := 94) (by kernel_rfl)).co hF (i := 93) (by kernel_rfl)).co hF (i := 92) (by kernel_rfl)).co hF (i := 91) (by kernel_rfl)).co hF (i := 90) (by kernel_rfl)).co hF (i := 89) (by kernel_rfl)).co hF (i := 88) (by kernel_rfl)).co hF (i := 87) (by kernel_rfl)).co hF (i := 86) (by kernel_rfl)).co hF (i := 85) (by kernel_rfl)).co hF (i := 84) (by kernel_rfl)).co hF (i := 83) (by kernel_rfl)).co hF (i := 82) (by kernel_rfl)).co hF (i := 81) (by kernel_rfl)).co hF (i := 80) (by kernel_rfl)).co hF (i := 79) (by kernel_rfl)).co hF (i := 78) (by kernel_rfl)).co hF (i := 77) (by kernel_rfl)).co hF (i := 76) (by kernel_rfl)).co hF (i := 75) (by kernel_rfl)).co hF (i := 74) (by kernel_rfl)).co hF (i := 73) (by kernel_rfl)).co hF (i := 72) (by kernel_rfl)).co hF (i := 71) (by kernel_rfl)).co hF (i := 70) (by kernel_rfl)).co hF (i := 67) (by kernel_rfl)).co hF (i := 66) (by kernel_rfl)).co hF (i := 65) (by kernel_rfl)).co hF (i := 64) (by kernel_rfl)).co hF (i := 63) (by kernel_rfl)).co hF (i := 62) (by kernel_rfl)).co hF (i := 61) (by kernel_rfl)).co hF (i := 60) (by kernel_rfl)).co hF (i := 59) (by kernel_rfl)).co hF (i := 58) (by kernel_rfl)).co hF (i := 57) (by kernel_rfl)).co hF (i := 56) (by kernel_rfl)).co hF (i := 55) (by kernel_rfl)).co hF (i := 54) (by kernel_rfl)).co hF (i := 53) (by kernel_rfl)).co hF (i := 52) (by kernel_rfl)).co hF (i := 51) (by kernel_rfl)).co hF (i := 50) (by kernel_rfl)).co hF (i := 49) (by kernel_rfl)).co hF (i := 48) (by kernel_rfl)).co hF (i := 41) (by kernel_rfl)).co hF (i := 40) (by kernel_rfl)).co hF (i := 39) (by kernel_rfl)).co hF (i := 38) (by kernel_rfl)).co hF (i := 35) (by kernel_rfl)).co hF (i := 34) (by kernel_rfl)).co hF (i := 33) (by kernel_rfl)).co hF (i := 32) (by kernel_rfl)).co hF (i := 17) (by kernel_rfl)).co hF (i := 16) (by kernel_rfl)).co hF (i := 15) (by kernel_rfl)).co hF (i := 14) (by kernel_rfl)).co hF (i := 13) (by kernel_rfl)).co hF (i := 12) (by kernel_rfl)).co hF (i := 11) (by kernel_rfl)).co hF (i := 10) (by kernel_rfl)).co hF (i := 9) (by kernel_rfl)).co hF (i := 8) (by kernel_rfl)).co hF (i := 7) (by kernel_rfl)).co hF (i := 2) (by kernel_rfl)), hM.drew.sub (((((((((((Sub.nil.co (k := 18) (by kernel_rfl)).co (k := 17) (by kernel_rfl)).co (k := 16) (by kernel_rfl)).co (k := 10) (by kernel_rfl)).co (k := 9) (by kernel_rfl)).co (k := 8) (by kernel_rfl)).co (k := 7) (by kernel_rfl)).co (k := 6) (by kernel_rfl)).co (k := 3) (by kernel_rfl)).co (k := 2) (by kernel_rfl)).co (k := 1) (by kernel_rfl))⟩
                  · refine stC ?_ (stC ?_ (stC ?_ (stC ?_ (stC ?_ (stC ?_ (stC ?_ (stC ?_ (stC ?_ (stC ?_ (stC ?_ (stC ?_ (trivial))))))))))))
                    · intro s0 s1 s2 s3 s4 s5 s6 s7 s8 s9 s10 s11 hc hi hp a w hS
                      obtain rfl : s0 = false := hi
                      obtain rfl : s3 = false := hc.f 3 0 (by kernel_rfl) rfl
                      obtain rfl : s9 = false := hc.f 9 0 (by kernel_rfl) rfl
                      obtain ⟨bb16, AA17, cc17, bb18, AA19, cc19, hF, hM⟩ := hS
                      refine eP 145 (v0 := .slice G1 k c1) (v := .slice G1 k c1) hF (by kernel_rfl) (fun _ => by kernel_rfl) rfl fun a hF => ?_
                      exact ⟨bb16, AA17, cc17, bb18, AA19, cc19, ((hF.repl 115 (by kernel_rfl)).cast (by kernel_rfl)), (hM.cast (by kernel_rfl))⟩
                    · intro s0 s1 s2 s3 s4 s5 s6 s7 s8 s9 s10 s11 hc hi hp a w hS
                      obtain rfl : s1 = false := hi
                      obtain ⟨bb16, AA17, cc17, bb18, AA19, cc19, hF, hM⟩ := hS
                      refine eP 146 (v0 := .int .i64 sst) (v := .int .i64 sst) hF (by kernel_rfl) (fun _ => by kernel_rfl) rfl fun a hF => ?_
                      exact ⟨bb16, AA17, cc17, bb18, AA19, cc19, ((hF.repl 116 (by kernel_rfl)).cast (by kernel_rfl)), (hM.cast (by kernel_rfl))⟩
                    · intro s0 s1 s2 s3 s4 s5 s6 s7 s8 s9 s10 s11 hc hi hp a w hS
                      obtain rfl : s2 = false := hi
                      obtain rfl : s1 = true := hp 1 (by kernel_rfl)
                      obtain ⟨bb16, AA17, cc17, bb18, AA19, cc19, hF, hM⟩ := hS
                      refine eN 147 17 (t := 3) (fun b => .slice (some ⟨b, 0, none⟩) 1 1) #[.int .i64 sst] hF hM (by kernel_rfl) (fun _ => by kernel_rfl) fun bb16 a w hF hM => ?_
                      exact ⟨bb16, AA17, cc17, bb18, AA19, cc19, ((hF.repl 117 (by kernel_rfl)).cast (by kernel_rfl)), ((hM.repl 9 (by kernel_rfl)).cast (by kernel_rfl))⟩
                    · intro s0 s1 s2 s3 s4 s5 s6 s7 s8 s9 s10 s11 hc hi hp a w hS
                      obtain rfl : s3 = false := hi
                      obtain rfl : s2 = true := hp 2 (by kernel_rfl)
                      obtain rfl : s0 = true := hp 0 (by kernel_rfl)
                      obtain rfl : s9 = false := hc.f 9 3 (by kernel_rfl) rfl
                      obtain ⟨bb16, AA17, cc17, bb18, AA19, cc19, hF, hM⟩ := hS
                      refine sApp 148 9 (e := 3) (size := 1) (bytes := 8) (z := .int .i64 0) (m := 1) (c := 1) (l := k) (cap := c1) (A := G1) (news := [.int .i64 sst]) ((SS ++ [sst]).map (Value.int .i64)) hF hM (by kernel_rfl) rfl (by kernel_rfl) (by kernel_rfl) (by kernel_rfl) rfl rfl rfl rfl (roR 17 rfl) (by simp [Value.oneCell']) (by omega) (by decide) (map_snoc' _ _ _) fun AA17 cc17 a w hF hM => ?_
                      exact ⟨bb16, AA17, cc17, bb18, AA19, cc19, ((hF.repl 118 (by kernel_rfl)).cast (by kernel_rfl)), ((hM.repl 6 (by kernel_rfl)).cast (by kernel_rfl))⟩
                    · intro s0 s1 s2 s3 s4 s5 s6 s7 s8 s9 s10 s11 hc hi hp a w hS
                      obtain rfl : s4 = false := hi
                      obtain rfl : s7 = false := hc.f 7 4 (by kernel_rfl) rfl
                      obtain rfl : s10 = false := hc.f 10 4 (by kernel_rfl) rfl
                      obtain ⟨bb16, AA17, cc17, bb18, AA19, cc19, hF, hM⟩ := hS
                      refine eP 149 (v0 := .slice G2 k c2) (v := .slice G2 k c2) hF (by kernel_rfl) (fun _ => by kernel_rfl) rfl fun a hF => ?_
                      exact ⟨bb16, AA17, cc17, bb18, AA19, cc19, ((hF.repl 119 (by kernel_rfl)).cast (by kernel_rfl)), (hM.cast (by kernel_rfl))⟩
                    · intro s0 s1 s2 s3 s4 s5 s6 s7 s8 s9 s10 s11 hc hi hp a w hS
                      obtain rfl : s5 = false := hi
                      obtain ⟨bb16, AA17, cc17, bb18, AA19, cc19, hF, hM⟩ := hS
                      refine eP 150 (v0 := .int .i64 (slv - (srt * spr - 1048576) * (pr lcr k).2)) (v := .int .i64 (slv - (srt * spr - 1048576) * (pr lcr k).2)) hF (by kernel_rfl) (fun _ => by kernel_rfl) rfl fun a hF => ?_
                      exact ⟨bb16, AA17, cc17, bb18, AA19, cc19, ((hF.repl 120 (by kernel_rfl)).cast (by kernel_rfl)), (hM.cast (by kernel_rfl))⟩
                    · intro s0 s1 s2 s3 s4 s5 s6 s7 s8 s9 s10 s11 hc hi hp a w hS
                      obtain rfl : s6 = false := hi
                      obtain rfl : s5 = true := hp 5 (by kernel_rfl)
                      obtain ⟨bb16, AA17, cc17, bb18, AA19, cc19, hF, hM⟩ := hS
                      refine eN 151 18 (t := 3) (fun b => .slice (some ⟨b, 0, none⟩) 1 1) #[.int .i64 (slv - (srt * spr - 1048576) * (pr lcr k).2)] hF hM (by kernel_rfl) (fun _ => by kernel_rfl) fun bb18 a w hF hM => ?_
                      exact ⟨bb16, AA17, cc17, bb18, AA19, cc19, ((hF.repl 121 (by kernel_rfl)).cast (by kernel_rfl)), ((hM.repl 10 (by kernel_rfl)).cast (by kernel_rfl))⟩
                    · intro s0 s1 s2 s3 s4 s5 s6 s7 s8 s9 s10 s11 hc hi hp a w hS
                      obtain rfl : s7 = false := hi
                      obtain rfl : s6 = true := hp 6 (by kernel_rfl)
                      obtain rfl : s4 = true := hp 4 (by kernel_rfl)
                      obtain rfl : s10 = false := hc.f 10 7 (by kernel_rfl) rfl
                      obtain ⟨bb16, AA17, cc17, bb18, AA19, cc19, hF, hM⟩ := hS
                      refine sApp 152 10 (e := 3) (size := 1) (bytes := 8) (z := .int .i64 0) (m := 1) (c := 1) (l := k) (cap := c2) (A := G2) (news := [.int .i64 (slv - (srt * spr - 1048576) * (pr lcr k).2)]) ((LL ++ [slv - (srt * spr - 1048576) * (pr lcr k).2]).map (Value.int .i64)) hF hM (by kernel_rfl) rfl (by kernel_rfl) (by kernel_rfl) (by kernel_rfl) rfl rfl rfl rfl (roR 18 rfl) (by simp [Value.oneCell']) (by omega) (by decide) (map_snoc' _ _ _) fun AA19 cc19 a w hF hM => ?_
                      exact ⟨bb16, AA17, cc17, bb18, AA19, cc19, ((hF.repl 122 (by kernel_rfl)).cast (by kernel_rfl)), ((hM.repl 7 (by kernel_rfl)).cast (by kernel_rfl))⟩
                    · intro s0 s1 s2 s3 s4 s5 s6 s7 s8 s9 s10 s11 hc hi hp a w hS
                      obtain rfl : s8 = false := hi
                      obtain ⟨bb16, AA17, cc17, bb18, AA19, cc19, hF, hM⟩ := hS
                      refine eL 153 16 0 (v := .agg #[.int .i64 sat, .int .i64 slv]) hF hM (by kernel_rfl) rfl rfl (by kernel_rfl) (by kernel_rfl) fun a w hF hM => ?_
                      exact ⟨bb16, AA17, cc17, bb18, AA19, cc19, ((hF.repl 123 (by kernel_rfl)).cast (by kernel_rfl)), (hM.cast (by kernel_rfl))⟩
                    · intro s0 s1 s2 s3 s4 s5 s6 s7 s8 s9 s10 s11 hc hi hp a w hS
                      obtain rfl : s9 = false := hi
                      obtain rfl : s3 = true := hp 3 (by kernel_rfl)
                      obtain ⟨bb16, AA17, cc17, bb18, AA19, cc19, hF, hM⟩ := hS
                      refine eP 9 (v0 := .slice AA17 (k + 1) cc17) (v := .slice AA17 (k + 1) cc17) hF (by kernel_rfl) (fun _ => by kernel_rfl) rfl fun a hF => ?_
                      exact ⟨bb16, AA17, cc17, bb18, AA19, cc19, ((hF.repl 3 (by kernel_rfl)).cast (by kernel_rfl)), (hM.cast (by kernel_rfl))⟩
                    · intro s0 s1 s2 s3 s4 s5 s6 s7 s8 s9 s10 s11 hc hi hp a w hS
                      obtain rfl : s10 = false := hi
                      obtain rfl : s7 = true := hp 7 (by kernel_rfl)
                      obtain ⟨bb16, AA17, cc17, bb18, AA19, cc19, hF, hM⟩ := hS
                      refine eP 10 (v0 := .slice AA19 (k + 1) cc19) (v := .slice AA19 (k + 1) cc19) hF (by kernel_rfl) (fun _ => by kernel_rfl) rfl fun a hF => ?_
                      exact ⟨bb16, AA17, cc17, bb18, AA19, cc19, ((hF.repl 4 (by kernel_rfl)).cast (by kernel_rfl)), (hM.cast (by kernel_rfl))⟩
                    · intro s0 s1 s2 s3 s4 s5 s6 s7 s8 s9 s10 s11 hc hi hp a w hS
                      obtain rfl : s11 = false := hi
                      obtain rfl : s8 = true := hp 8 (by kernel_rfl)
                      obtain ⟨bb16, AA17, cc17, bb18, AA19, cc19, hF, hM⟩ := hS
                      refine sStore (i := 8) (off := 0) (cs' := #[.int .i64 sat, .int .i64 slv]) hF hM (by kernel_rfl) rfl rfl (by kernel_rfl) (by kernel_rfl) rfl (by kernel_rfl) fun w hM => ?_
                      exact ⟨bb16, AA17, cc17, bb18, AA19, cc19, (hF.cast (by kernel_rfl)), ((hM.repl 5 (by kernel_rfl)).cast (by kernel_rfl))⟩
                  · intro a w hS
                    obtain ⟨bb16, AA17, cc17, bb18, AA19, cc19, hF, hM⟩ := hS
                    replace hF : Fr 196 [(2, some (.slice Fa free.length cf)), (7, some (.pointer (some ⟨bb4, 0, none⟩))), (8, some (.slice AA3 lcr.length cc3)), (9, some (.slice AA17 (k + 1) cc17)), (10, some (.slice AA19 (k + 1) cc19)), (11, some (.pointer (some ⟨bb5, 0, none⟩))), (12, some (.int .i64 (k : Int))), (13, some (.int .i64 0)), (14, some (.int .i64 sst)), (15, some (.pointer (some ⟨bb15, 0, none⟩))), (16, some (.int .i64 see)), (17, some (.int .i64 (slv - (srt * spr - 1048576) * (pr lcr k).2))), (32, some (.int .i64 (k : Int))), (33, some (.slice AA3 lcr.length cc3)), (34, some (.int .i64 (lcr.length : Int))), (35, some (.bool true)), (38, some (.int .i64 (k : Int))), (39, some (.slice Fa free.length cf)), (40, some (.int .i64 (free.length : Int))), (41, some (.bool false)), (48, some (.tuple #[.int .i64 sst, .agg #[.int .i64 sat, .int .i64 slv], .int .i64 see])), (49, some (.agg #[.int .i64 srt, .int .i64 spr])), (50, some (.agg #[.int .i64 aa, .int .i64 bl])), (51, some (.slice AA3 lcr.length cc3)), (52, some (.int .i64 (k : Int))), (53, some (.pointer (some (ea AA3 (k * 2))))), (54, some (.pointer (some (ea AA3 (k * 2))))), (55, some (.int .i64 (pr lcr k).1)), (56, some (.int .i64 0)), (57, some (.slice AA3 lcr.length cc3)), (58, some (.int .i64 (k : Int))), (59, some (.pointer (some (ea AA3 (k * 2))))), (60, some (.pointer (some (ea AA3 (k * 2 + 1))))), (61, some (.int .i64 (pr lcr k).2)), (62, some (.tuple #[.int .i64 sst, .agg #[.int .i64 sat, .int .i64 slv], .int .i64 see])), (63, some (.int .i64 sst)), (64, some (.agg #[.int .i64 sat, .int .i64 slv])), (65, some (.int .i64 see)), (66, some (.int .i64 see)), (67, some (.bool false)), (70, some (.pointer (some ⟨bb15, 1, none⟩))), (71, some (.int .i64 slv)), (72, some (.pointer (some ⟨bb4, 0, none⟩))), (73, some (.int .i64 srt)), (74, some (.pointer (some ⟨bb4, 1, none⟩))), (75, some (.int .i64 spr)), (76, some (.int .i64 (srt * spr))), (77, some (.int .i64 (srt * spr - 1048576))), (78, some (.slice AA3 lcr.length cc3)), (79, some (.int .i64 (k : Int))), (80, some (.pointer (some (ea AA3 (k * 2))))), (81, some (.pointer (some (ea AA3 (k * 2 + 1))))), (82, some (.int .i64 (pr lcr k).2)), (83, some (.int .i64 ((srt * spr - 1048576) * (pr lcr k).2))), (84, some (.int .i64 (slv - (srt * spr - 1048576) * (pr lcr k).2))), (85, some (.int .i64 (slv - (srt * spr - 1048576) * (pr lcr k).2))), (86, some (.bool false)), (87, some (.bool false)), (88, some (.pointer (some ⟨bb15, 1, none⟩))), (89, some (.int .i64 slv)), (90, some (.slice AA3 lcr.length cc3)), (91, some (.int .i64 (k : Int))), (92, some (.pointer (some (ea AA3 (k * 2))))), (93, some (.pointer (some (ea AA3 (k * 2 + 1))))), (94, some (.int .i64 (pr lcr k).2)), (95, some (.int .i64 (-1048576 * (pr lcr k).2))), (96, some (.bool false)), (97, some (.bool false)), (98, some (.bool false)), (99, some (.pointer (some ⟨bb15, 0, none⟩))), (100, some (.int .i64 sat)), (101, some (.int .i64 sst)), (102, some (.slice AA3 lcr.length cc3)), (103, some (.int .i64 (k : Int))), (104, some (.pointer (some (ea AA3 (k * 2))))), (105, some (.pointer (some (ea AA3 (k * 2 + 1))))), (106, some (.int .i64 (pr lcr k).2)), (107, some (.pointer (some ⟨bb4, 1, none⟩))), (108, some (.int .i64 spr)), (109, some (.int .i64 ((pr lcr k).2 * spr))), (110, some (.int .i64 (sst + (pr lcr k).2 * spr))), (111, some (.bool false)), (112, some (.bool false)), (113, some (.bool false)), (114, some (.int .i64 sst)), (115, some (.int .i64 0)), (116, some (.slice AA3 lcr.length cc3)), (117, some (.int .i64 (k : Int))), (118, some (.pointer (some (ea AA3 (k * 2))))), (119, some (.pointer (some (ea AA3 (k * 2))))), (120, some (.int .i64 (pr lcr k).1)), (121, some (.pointer (some ⟨bb5, 0, none⟩))), (122, some (.int .i64 aa)), (123, some (.int .i64 (max (pr lcr k).1 aa))), (124, some (.int .i64 (max 0 (max (pr lcr k).1 aa)))), (125, some (.bool false)), (126, some (.bool false)), (127, some (.int .i64 sst)), (128, some (.int .i64 0)), (129, some (.slice AA3 lcr.length cc3)), (130, some (.int .i64 (k : Int))), (131, some (.pointer (some (ea AA3 (k * 2))))), (132, some (.pointer (some (ea AA3 (k * 2))))), (133, some (.int .i64 (pr lcr k).1)), (134, some (.pointer (some ⟨bb5, 0, none⟩))), (135, some (.int .i64 aa)), (136, some (.int .i64 (max (pr lcr k).1 aa))), (137, some (.int .i64 (max 0 (max (pr lcr k).1 aa)))), (138, some (.bool true)), (139, some (.bool true)), (140, some (.int .i64 (slv - (srt * spr - 1048576) * (pr lcr k).2))), (141, some (.pointer (some ⟨bb4, 0, none⟩))), (142, some (.int .i64 srt)), (143, some (.bool false)), (144, some (.bool false)), (145, some (.slice G1 k c1)), (146, some (.int .i64 sst)), (147, some (.slice (some ⟨bb16, 0, none⟩) 1 1)), (148, some (.slice AA17 (k + 1) cc17)), (149, some (.slice G2 k c2)), (150, some (.int .i64 (slv - (srt * spr - 1048576) * (pr lcr k).2))), (151, some (.slice (some ⟨bb18, 0, none⟩) 1 1)), (152, some (.slice AA19 (k + 1) cc19)), (153, some (.agg #[.int .i64 sat, .int .i64 slv]))] a := hF.cast (by kernel_rfl)
                    replace hM : Mem w0.heap.size w0 [(1, some (.ro Ga (gaps.map (Value.int .u16)))), (2, some (.ro Sa (sizes.map (Value.int .u16)))), (3, some (.ro Fa (free.map (Value.int .u16)))), (6, some (.own (.slice AA3 lcr.length cc3) 57 2 lcr.length (flat2 lcr))), (7, some (.row bb4 23 #[.int .i64 srt, .int .i64 spr])), (8, some (.row bb5 40 #[.int .i64 sat, .int .i64 slv])), (9, some (.own (.slice AA17 (k + 1) cc17) 3 1 (k + 1) ((SS ++ [sst]).map (Value.int .i64)))), (10, some (.own (.slice AA19 (k + 1) cc19) 3 1 (k + 1) ((LL ++ [slv - (srt * spr - 1048576) * (pr lcr k).2]).map (Value.int .i64)))), (16, some (.row bb15 40 #[.int .i64 sat, .int .i64 slv])), (17, some (.row bb16 3 #[.int .i64 sst])), (18, some (.row bb18 3 #[.int .i64 (slv - (srt * spr - 1048576) * (pr lcr k).2)]))] w := hM.cast (by kernel_rfl)
                    refine hK12 _ _ ?_
                    refine wp_region_lit ?_
                    refine sB 1 [(36, .int .i64 (k : Int))] hF (by kernel_rfl) fun a hF => ?_
                    refine wl (eP 37 (v0 := .int .i64 (IntKind.i64.wrap ((k : Int) + 1))) (v := .int .i64 ((k : Int) + 1)) hF (by kernel_rfl) (fun _ => by kernel_rfl) (wi (by omega)) fun a hF => ?_)
                    refine sB 1 [(12, .int .i64 ((k : Int) + 1))] hF (by kernel_rfl) fun a hF => ?_
                    refine wpList_nil ?_
                    refine hK9 _ _ ⟨(k + 1, sat, slv, SS ++ [sst], LL ++ [slv - (srt * spr - 1048576) * (pr lcr k).2], AA17, cc17, AA19, cc19), ⟨((((((((Fr.nil hF).c hF (i := 11) rfl rfl).c hF (i := 8) rfl rfl).c hF (i := 7) rfl rfl).c hF (i := 2) rfl rfl).c hF (i := 12) rfl (vi (show ((k : Int) + 1 : Int) = ((k + 1) : Int) from by omega))).c hF (i := 10) rfl rfl).c hF (i := 9) rfl rfl), (hM.sub ((((((((Sub.nil.c (k := 10) rfl rfl).c (k := 9) rfl rfl).c (k := 8) rfl rfl).c (k := 7) rfl rfl).c (k := 6) rfl rfl).c (k := 3) rfl rfl).c (k := 2) rfl rfl).c (k := 1) rfl rfl)), (show ((k + 1) : Int) ≤ (lcr.length : Int) from by omega), (show ((SS ++ [sst]).length : Int) = ((k + 1) : Int) from by simp; omega), (show ((LL ++ [slv - (srt * spr - 1048576) * (pr lcr k).2]).length : Int) = ((k + 1) : Int) from by simp; omega), (show Sh srt lcr (k + 1) (SS ++ [sst]) (LL ++ [slv - (srt * spr - 1048576) * (pr lcr k).2]) sat slv from by exact hnx)⟩, (show lcr.length - (k + 1) < lcr.length - k from by omega)⟩
              · skip
                refine rQ hM (by kernel_rfl) (by kernel_rfl) ?_
                refine eQ 127 (v0 := .int .i64 sst) (v := .int .i64 sst) hF (by kernel_rfl) (fun _ => by kernel_rfl) rfl fun a hF => ?_
                refine eQ 128 (v0 := .int .i64 0) (v := .int .i64 0) hF (by kernel_rfl) (fun _ => by kernel_rfl) rfl fun a hF => ?_
                refine eQ 129 (v0 := .slice AA3 lcr.length cc3) (v := .slice AA3 lcr.length cc3) hF (by kernel_rfl) (fun _ => by kernel_rfl) rfl fun a hF => ?_
                refine eQ 130 (v0 := .int .i64 (k : Int)) (v := .int .i64 (k : Int)) hF (by kernel_rfl) (fun _ => by kernel_rfl) rfl fun a hF => ?_
                refine eQ2 131 (v := .pointer (some (ea AA3 (k * 2)))) hF (by kernel_rfl) (yld_ix (kd := .i64) (e := 57) (len := lcr.length) (cap := cc3) (i := (k : Int)) (size := 2) (A := AA3) hF rfl (by kernel_rfl) (by kernel_rfl) (by kernel_rfl) (by kernel_rfl) (by kernel_rfl) (roO 6 rfl) (by omega) (by omega) (by rw [flat2_length]; omega)) fun a hF => ?_
                refine eQ 132 (v0 := .pointer (some (ea AA3 (k * 2)))) (v := .pointer (some (ea AA3 (k * 2)))) hF (by kernel_rfl) (fun _ => by kernel_rfl) rfl fun a hF => ?_
                refine eQ2 133 (v := .int .i64 (pr lcr k).1) hF (by kernel_rfl) (yld_ro1 (A := AA3) (j := k * 2) hF rfl (by kernel_rfl) (by kernel_rfl) (roO 6 rfl) (by kernel_rfl) (pr_fst (k := k) (by omega) (by omega))) fun a hF => ?_
                refine eQ 134 (v0 := .pointer (some ⟨bb5, 0, none⟩)) (v := .pointer (some ⟨bb5, 0, none⟩)) hF (by kernel_rfl) (fun _ => by kernel_rfl) rfl fun a hF => ?_
                refine eQL 135 8 0 (v := .int .i64 aa) hF (by kernel_rfl) rfl rfl (by kernel_rfl) (by kernel_rfl) fun a hF => ?_
                refine eQ 136 (v0 := .int .i64 (if aa > (pr lcr k).1 then aa else (pr lcr k).1)) (v := .int .i64 (max (pr lcr k).1 aa)) hF (by kernel_rfl) (fun _ => by kernel_rfl) (vi (max_if _ _)) fun a hF => ?_
                refine eQ 137 (v0 := .int .i64 (if max (pr lcr k).1 aa > 0 then max (pr lcr k).1 aa else 0)) (v := .int .i64 (max 0 (max (pr lcr k).1 aa))) hF (by kernel_rfl) (fun _ => by kernel_rfl) (vi (max_if _ _)) fun a hF => ?_
                refine eQ 138 (v0 := .bool (decide (max 0 (max (pr lcr k).1 aa) < sst))) (v := .bool false) hF (by kernel_rfl) (fun _ => by kernel_rfl) (bF hz13) fun a hF => ?_
                refine eQ 139 (v0 := .bool false) (v := .bool false) hF (by kernel_rfl) (fun _ => by kernel_rfl) rfl fun a hF => ?_
                refine qSkip hF (by kernel_rfl) rfl (by decide) fun a hF => ?_
                refine qSkip hF (by kernel_rfl) rfl (by decide) fun a hF => ?_
                refine qSkip hF (by kernel_rfl) rfl (by decide) fun a hF => ?_
                refine qSkip hF (by kernel_rfl) rfl (by decide) fun a hF => ?_
                refine eQ 144 (v0 := .bool false) (v := .bool false) hF (by kernel_rfl) (fun _ => by kernel_rfl) rfl fun a hF => ?_
                refine wpQuiet_nil ?_
                intro w hM
                refine hK33 _ _ ?_
                refine cF hF (by kernel_rfl) (by kernel_rfl) ?_
                refine wp_skip ?_
                refine hK32 _ _ ?_
                refine rF (by kernel_rfl) (by kernel_rfl) (fun S a w => ∃ bb20 : Nat, ∃ AA21 : Option Addr, ∃ cc21 : Nat, ∃ bb22 : Nat, ∃ AA23 : Option Addr, ∃ cc23 : Nat, Fr 196 [(2, some (.slice Fa free.length cf)), (7, some (.pointer (some ⟨bb4, 0, none⟩))), (8, some (.slice AA3 lcr.length cc3)), (9, (cond (S.getD 9 false) (some (.slice AA21 (k + 1) cc21)) (some (.slice G1 k c1)))), (10, (cond (S.getD 10 false) (some (.slice AA23 (k + 1) cc23)) (some (.slice G2 k c2)))), (11, some (.pointer (some ⟨bb5, 0, none⟩))), (12, some (.int .i64 (k : Int))), (13, some (.int .i64 0)), (14, some (.int .i64 sst)), (15, some (.pointer (some ⟨bb15, 0, none⟩))), (16, some (.int .i64 see)), (17, some (.int .i64 (slv - (srt * spr - 1048576) * (pr lcr k).2))), (32, some (.int .i64 (k : Int))), (33, some (.slice AA3 lcr.length cc3)), (34, some (.int .i64 (lcr.length : Int))), (35, some (.bool true)), (38, some (.int .i64 (k : Int))), (39, some (.slice Fa free.length cf)), (40, some (.int .i64 (free.length : Int))), (41, some (.bool false)), (48, some (.tuple #[.int .i64 sst, .agg #[.int .i64 sat, .int .i64 slv], .int .i64 see])), (49, some (.agg #[.int .i64 srt, .int .i64 spr])), (50, some (.agg #[.int .i64 aa, .int .i64 bl])), (51, some (.slice AA3 lcr.length cc3)), (52, some (.int .i64 (k : Int))), (53, some (.pointer (some (ea AA3 (k * 2))))), (54, some (.pointer (some (ea AA3 (k * 2))))), (55, some (.int .i64 (pr lcr k).1)), (56, some (.int .i64 0)), (57, some (.slice AA3 lcr.length cc3)), (58, some (.int .i64 (k : Int))), (59, some (.pointer (some (ea AA3 (k * 2))))), (60, some (.pointer (some (ea AA3 (k * 2 + 1))))), (61, some (.int .i64 (pr lcr k).2)), (62, some (.tuple #[.int .i64 sst, .agg #[.int .i64 sat, .int .i64 slv], .int .i64 see])), (63, some (.int .i64 sst)), (64, some (.agg #[.int .i64 sat, .int .i64 slv])), (65, some (.int .i64 see)), (66, some (.int .i64 see)), (67, some (.bool false)), (70, some (.pointer (some ⟨bb15, 1, none⟩))), (71, some (.int .i64 slv)), (72, some (.pointer (some ⟨bb4, 0, none⟩))), (73, some (.int .i64 srt)), (74, some (.pointer (some ⟨bb4, 1, none⟩))), (75, some (.int .i64 spr)), (76, some (.int .i64 (srt * spr))), (77, some (.int .i64 (srt * spr - 1048576))), (78, some (.slice AA3 lcr.length cc3)), (79, some (.int .i64 (k : Int))), (80, some (.pointer (some (ea AA3 (k * 2))))), (81, some (.pointer (some (ea AA3 (k * 2 + 1))))), (82, some (.int .i64 (pr lcr k).2)), (83, some (.int .i64 ((srt * spr - 1048576) * (pr lcr k).2))), (84, some (.int .i64 (slv - (srt * spr - 1048576) * (pr lcr k).2))), (85, some (.int .i64 (slv - (srt * spr - 1048576) * (pr lcr k).2))), (86, some (.bool false)), (87, some (.bool false)), (88, some (.pointer (some ⟨bb15, 1, none⟩))), (89, some (.int .i64 slv)), (90, some (.slice AA3 lcr.length cc3)), (91, some (.int .i64 (k : Int))), (92, some (.pointer (some (ea AA3 (k * 2))))), (93, some (.pointer (some (ea AA3 (k * 2 + 1))))), (94, some (.int .i64 (pr lcr k).2)), (95, some (.int .i64 (-1048576 * (pr lcr k).2))), (96, some (.bool false)), (97, some (.bool false)), (98, some (.bool false)), (99, some (.pointer (some ⟨bb15, 0, none⟩))), (100, some (.int .i64 sat)), (101, some (.int .i64 sst)), (102, some (.slice AA3 lcr.length cc3)), (103, some (.int .i64 (k : Int))), (104, some (.pointer (some (ea AA3 (k * 2))))), (105, some (.pointer (some (ea AA3 (k * 2 + 1))))), (106, some (.int .i64 (pr lcr k).2)), (107, some (.pointer (some ⟨bb4, 1, none⟩))), (108, some (.int .i64 spr)), (109, some (.int .i64 ((pr lcr k).2 * spr))), (110, some (.int .i64 (sst + (pr lcr k).2 * spr))), (111, some (.bool false)), (112, some (.bool false)), (113, some (.bool false)), (114, some (.int .i64 sst)), (115, some (.int .i64 0)), (116, some (.slice AA3 lcr.length cc3)), (117, some (.int .i64 (k : Int))), (118, some (.pointer (some (ea AA3 (k * 2))))), (119, some (.pointer (some (ea AA3 (k * 2))))), (120, some (.int .i64 (pr lcr k).1)), (121, some (.pointer (some ⟨bb5, 0, none⟩))), (122, some (.int .i64 aa)), (123, some (.int .i64 (max (pr lcr k).1 aa))), (124, some (.int .i64 (max 0 (max (pr lcr k).1 aa)))), (125, some (.bool false)), (126, some (.bool false)), (127, some (.int .i64 sst)), (128, some (.int .i64 0)), (129, some (.slice AA3 lcr.length cc3)), (130, some (.int .i64 (k : Int))), (131, some (.pointer (some (ea AA3 (k * 2))))), (132, some (.pointer (some (ea AA3 (k * 2))))), (133, some (.int .i64 (pr lcr k).1)), (134, some (.pointer (some ⟨bb5, 0, none⟩))), (135, some (.int .i64 aa)), (136, some (.int .i64 (max (pr lcr k).1 aa))), (137, some (.int .i64 (max 0 (max (pr lcr k).1 aa)))), (138, some (.bool false)), (139, some (.bool false)), (140, some (undef)), (141, some (undef)), (142, some (undef)), (143, some (undef)), (144, some (.bool false)), (145, (cond (S.getD 0 false) (some (.slice G1 k c1)) none)), (146, (cond (S.getD 1 false) (some (.int .i64 sst)) none)), (147, (cond (S.getD 2 false) (some (.slice (some ⟨bb20, 0, none⟩) 1 1)) none)), (148, (cond (S.getD 3 false) (some (.slice AA21 (k + 1) cc21)) none)), (149, (cond (S.getD 4 false) (some (.slice G2 k c2)) none)), (150, (cond (S.getD 5 false) (some (.int .i64 (slv - (srt * spr - 1048576) * (pr lcr k).2))) none)), (151, (cond (S.getD 6 false) (some (.slice (some ⟨bb22, 0, none⟩) 1 1)) none)), (152, (cond (S.getD 7 false) (some (.slice AA23 (k + 1) cc23)) none)), (153, (cond (S.getD 8 false) (some (.agg #[.int .i64 sat, .int .i64 slv])) none))] a ∧ Mem w0.heap.size w0 [(1, some (.ro Ga (gaps.map (Value.int .u16)))), (2, some (.ro Sa (sizes.map (Value.int .u16)))), (3, some (.ro Fa (free.map (Value.int .u16)))), (6, some (.own (.slice AA3 lcr.length cc3) 57 2 lcr.length (flat2 lcr))), (7, some (.row bb4 23 #[.int .i64 srt, .int .i64 spr])), (8, (cond (S.getD 11 false) (some (.row bb5 40 #[.int .i64 sat, .int .i64 slv])) (some (.row bb5 40 #[.int .i64 aa, .int .i64 bl])))), (9, (cond (S.getD 3 false) (some (.own (.slice AA21 (k + 1) cc21) 3 1 (k + 1) ((SS ++ [sst]).map (Value.int .i64)))) (some (.own (.slice G1 k c1) 3 1 k (SS.map (Value.int .i64)))))), (10, (cond (S.getD 7 false) (some (.own (.slice AA23 (k + 1) cc23) 3 1 (k + 1) ((LL ++ [slv - (srt * spr - 1048576) * (pr lcr k).2]).map (Value.int .i64)))) (some (.own (.slice G2 k c2) 3 1 k (LL.map (Value.int .i64)))))), (16, some (.row bb15 40 #[.int .i64 sat, .int .i64 slv])), (19, (cond (S.getD 2 false) (some (.row bb20 3 #[.int .i64 sst])) none)), (20, (cond (S.getD 6 false) (some (.row bb22 3 #[.int .i64 (slv - (srt * spr - 1048576) * (pr lcr k).2)])) none))] w) ?_ ?_ ?_
                · exact ⟨0, none, 0, 0, none, 0, (((((((((((((((((((((((((((((((((((((((((((((((((((((((((((((((((((((((((((((((((((((((((((((((((((((((((((((((((((((((((((((Fr.nil hF).co hF (i := 153) (by kernel_rfl)).co hF (i := 152) (by kernel_rfl)).co hF (i := 151) (by kernel_rfl)).co hF (i := 150) (by kernel_rfl)).co hF (i := 149) (by kernel_rfl)).co hF (i := 148) (by kernel_rfl)).co hF (i := 147) (by kernel_rfl)).co hF (i := 146) (by kernel_rfl)).co hF (i := 145) (by kernel_rfl)).co hF (i := 144) (by kernel_rfl)).co hF (i := 143) (by kernel_rfl)).co hF (i := 142) (by kernel_rfl)).co hF (i := 141) (by kernel_rfl)).co hF (i := 140) (by kernel_rfl)).co hF (i := 139) (by kernel_rfl)).co hF (i := 138) (by kernel_rfl)).co hF (i := 137) (by kernel_rfl)).co hF (i := 136) (by kernel_rfl)).co hF (i := 135) (by kernel_rfl)).co hF (i := 134) (by kernel_rfl)).co hF (i := 133) (by kernel_rfl)).co hF (i := 132) (by kernel_rfl)).co hF (i := 131) (by kernel_rfl)).co hF (i := 130) (by kernel_rfl)).co hF (i := 129) (by kernel_rfl)).co hF (i := 128) (by kernel_rfl)).co hF (i := 127) (by kernel_rfl)).co hF (i := 126) (by kernel_rfl)).co hF (i := 125) (by kernel_rfl)).co hF (i := 124) (by kernel_rfl)).co hF (i := 123) (by kernel_rfl)).co hF (i := 122) (by kernel_rfl)).co hF (i := 121) (by kernel_rfl)).co hF (i := 120) (by kernel_rfl)).co hF (i := 119) (by kernel_rfl)).co hF (i := 118) (by kernel_rfl)).co hF (i := 117) (by kernel_rfl)).co hF (i := 116) (by kernel_rfl)).co hF (i := 115) (by kernel_rfl)).co hF (i := 114) (by kernel_rfl)).co hF (i := 113) (by kernel_rfl)).co hF (i := 112) (by kernel_rfl)).co hF (i := 111) (by kernel_rfl)).co hF (i := 110) (by kernel_rfl)).co hF (i := 109) (by kernel_rfl)).co hF (i := 108) (by kernel_rfl)).co hF (i := 107) (by kernel_rfl)).co hF (i := 106) (by kernel_rfl)).co hF (i := 105) (by kernel_rfl)).co hF (i := 104) (by kernel_rfl)).co hF (i := 103) (by kernel_rfl)).co hF (i := 102) (by kernel_rfl)).co hF (i := 101) (by kernel_rfl)).co hF (i := 100) (by kernel_rfl)).co hF (i := 99) (by kernel_rfl)).co hF (i := 98) (by kernel_rfl)).co hF (i := 97) (by kernel_rfl)).co hF (i := 96) (by kernel_rfl)).co hF (i := 95) (by kernel_rfl)).co hF (i := 94) (by kernel_rfl)).co hF (i := 93) (by kernel_rfl)).co hF (i := 92) (by kernel_rfl)).co hF (i := 91) (by kernel_rfl)).co hF (i := 90) (by kernel_rfl)).co hF (i := 89) (by kernel_rfl)).co hF (i := 88) (by kernel_rfl)).co hF (i := 87) (by kernel_rfl)).co hF (i := 86) (by kernel_rfl)).co hF (i := 85) (by kernel_rfl)).co hF (i := 84) (by kernel_rfl)).co hF (i := 83) (by kernel_rfl)).co hF (i := 82) (by kernel_rfl)).co hF (i := 81) (by kernel_rfl)).co hF (i := 80) (by kernel_rfl)).co hF (i := 79) (by kernel_rfl)).co hF (i := 78) (by kernel_rfl)).co hF (i := 77) (by kernel_rfl)).co hF (i := 76) (by kernel_rfl)).co hF (i := 75) (by kernel_rfl)).co hF (i := 74) (by kernel_rfl)).co hF (i := 73) (by kernel_rfl)).co hF (i := 72) (by kernel_rfl)).co hF (i := 71) (by kernel_rfl)).co hF (i := 70) (by kernel_rfl)).co hF (i := 67) (by kernel_rfl)).co hF (i := 66) (by kernel_rfl)).co hF (i := 65) (by kernel_rfl)).co hF (i := 64) (by kernel_rfl)).co hF (i := 63) (by kernel_rfl)).co hF (i := 62) (by kernel_rfl)).co hF (i := 61) (by kernel_rfl)).co hF (i := 60) (by kernel_rfl)).co hF (i := 59) (by kernel_rfl)).co hF (i := 58) (by kernel_rfl)).co hF (i := 57) (by kernel_rfl)).co hF (i := 56) (by kernel_rfl)).co hF (i := 55) (by kernel_rfl)).co hF (i := 54) (by kernel_rfl)).co hF (i := 53) (by kernel_rfl)).co hF (i := 52) (by kernel_rfl)).co hF (i := 51) (by kernel_rfl)).co hF (i := 50) (by kernel_rfl)).co hF (i := 49) (by kernel_rfl)).co hF (i := 48) (by kernel_rfl)).co hF (i := 41) (by kernel_rfl)).co hF (i := 40) (by kernel_rfl)).co hF (i := 39) (by kernel_rfl)).co hF (i := 38) (by kernel_rfl)).co hF (i := 35) (by kernel_rfl)).co hF (i := 34) (by kernel_rfl)).co hF (i := 33) (by kernel_rfl)).co hF (i := 32) (by kernel_rfl)).co hF (i := 17) (by kernel_rfl)).co hF (i := 16) (by kernel_rfl)).co hF (i := 15) (by kernel_rfl)).co hF (i := 14) (by kernel_rfl)).co hF (i := 13) (by kernel_rfl)).co hF (i := 12) (by kernel_rfl)).co hF (i := 11) (by kernel_rfl)).co hF (i := 10) (by kernel_rfl)).co hF (i := 9) (by kernel_rfl)).co hF (i := 8) (by kernel_rfl)).co hF (i := 7) (by kernel_rfl)).co hF (i := 2) (by kernel_rfl)), hM.drew.sub (((((((((((Sub.nil.co (k := 20) (by kernel_rfl)).co (k := 19) (by kernel_rfl)).co (k := 16) (by kernel_rfl)).co (k := 10) (by kernel_rfl)).co (k := 9) (by kernel_rfl)).co (k := 8) (by kernel_rfl)).co (k := 7) (by kernel_rfl)).co (k := 6) (by kernel_rfl)).co (k := 3) (by kernel_rfl)).co (k := 2) (by kernel_rfl)).co (k := 1) (by kernel_rfl))⟩
                · refine stC ?_ (stC ?_ (stC ?_ (stC ?_ (stC ?_ (stC ?_ (stC ?_ (stC ?_ (stC ?_ (stC ?_ (stC ?_ (stC ?_ (trivial))))))))))))
                  · intro s0 s1 s2 s3 s4 s5 s6 s7 s8 s9 s10 s11 hc hi hp a w hS
                    obtain rfl : s0 = false := hi
                    obtain rfl : s3 = false := hc.f 3 0 (by kernel_rfl) rfl
                    obtain rfl : s9 = false := hc.f 9 0 (by kernel_rfl) rfl
                    obtain ⟨bb20, AA21, cc21, bb22, AA23, cc23, hF, hM⟩ := hS
                    refine eP 145 (v0 := .slice G1 k c1) (v := .slice G1 k c1) hF (by kernel_rfl) (fun _ => by kernel_rfl) rfl fun a hF => ?_
                    exact ⟨bb20, AA21, cc21, bb22, AA23, cc23, ((hF.repl 115 (by kernel_rfl)).cast (by kernel_rfl)), (hM.cast (by kernel_rfl))⟩
                  · intro s0 s1 s2 s3 s4 s5 s6 s7 s8 s9 s10 s11 hc hi hp a w hS
                    obtain rfl : s1 = false := hi
                    obtain ⟨bb20, AA21, cc21, bb22, AA23, cc23, hF, hM⟩ := hS
                    refine eP 146 (v0 := .int .i64 sst) (v := .int .i64 sst) hF (by kernel_rfl) (fun _ => by kernel_rfl) rfl fun a hF => ?_
                    exact ⟨bb20, AA21, cc21, bb22, AA23, cc23, ((hF.repl 116 (by kernel_rfl)).cast (by kernel_rfl)), (hM.cast (by kernel_rfl))⟩
                  · intro s0 s1 s2 s3 s4 s5 s6 s7 s8 s9 s10 s11 hc hi hp a w hS
                    obtain rfl : s2 = false := hi
                    obtain rfl : s1 = true := hp 1 (by kernel_rfl)
                    obtain ⟨bb20, AA21, cc21, bb22, AA23, cc23, hF, hM⟩ := hS
                    refine eN 147 19 (t := 3) (fun b => .slice (some ⟨b, 0, none⟩) 1 1) #[.int .i64 sst] hF hM (by kernel_rfl) (fun _ => by kernel_rfl) fun bb20 a w hF hM => ?_
                    exact ⟨bb20, AA21, cc21, bb22, AA23, cc23, ((hF.repl 117 (by kernel_rfl)).cast (by kernel_rfl)), ((hM.repl 9 (by kernel_rfl)).cast (by kernel_rfl))⟩
                  · intro s0 s1 s2 s3 s4 s5 s6 s7 s8 s9 s10 s11 hc hi hp a w hS
                    obtain rfl : s3 = false := hi
                    obtain rfl : s2 = true := hp 2 (by kernel_rfl)
                    obtain rfl : s0 = true := hp 0 (by kernel_rfl)
                    obtain rfl : s9 = false := hc.f 9 3 (by kernel_rfl) rfl
                    obtain ⟨bb20, AA21, cc21, bb22, AA23, cc23, hF, hM⟩ := hS
                    refine sApp 148 9 (e := 3) (size := 1) (bytes := 8) (z := .int .i64 0) (m := 1) (c := 1) (l := k) (cap := c1) (A := G1) (news := [.int .i64 sst]) ((SS ++ [sst]).map (Value.int .i64)) hF hM (by kernel_rfl) rfl (by kernel_rfl) (by kernel_rfl) (by kernel_rfl) rfl rfl rfl rfl (roR 19 rfl) (by simp [Value.oneCell']) (by omega) (by decide) (map_snoc' _ _ _) fun AA21 cc21 a w hF hM => ?_
                    exact ⟨bb20, AA21, cc21, bb22, AA23, cc23, ((hF.repl 118 (by kernel_rfl)).cast (by kernel_rfl)), ((hM.repl 6 (by kernel_rfl)).cast (by kernel_rfl))⟩
                  · intro s0 s1 s2 s3 s4 s5 s6 s7 s8 s9 s10 s11 hc hi hp a w hS
                    obtain rfl : s4 = false := hi
                    obtain rfl : s7 = false := hc.f 7 4 (by kernel_rfl) rfl
                    obtain rfl : s10 = false := hc.f 10 4 (by kernel_rfl) rfl
                    obtain ⟨bb20, AA21, cc21, bb22, AA23, cc23, hF, hM⟩ := hS
                    refine eP 149 (v0 := .slice G2 k c2) (v := .slice G2 k c2) hF (by kernel_rfl) (fun _ => by kernel_rfl) rfl fun a hF => ?_
                    exact ⟨bb20, AA21, cc21, bb22, AA23, cc23, ((hF.repl 119 (by kernel_rfl)).cast (by kernel_rfl)), (hM.cast (by kernel_rfl))⟩
                  · intro s0 s1 s2 s3 s4 s5 s6 s7 s8 s9 s10 s11 hc hi hp a w hS
                    obtain rfl : s5 = false := hi
                    obtain ⟨bb20, AA21, cc21, bb22, AA23, cc23, hF, hM⟩ := hS
                    refine eP 150 (v0 := .int .i64 (slv - (srt * spr - 1048576) * (pr lcr k).2)) (v := .int .i64 (slv - (srt * spr - 1048576) * (pr lcr k).2)) hF (by kernel_rfl) (fun _ => by kernel_rfl) rfl fun a hF => ?_
                    exact ⟨bb20, AA21, cc21, bb22, AA23, cc23, ((hF.repl 120 (by kernel_rfl)).cast (by kernel_rfl)), (hM.cast (by kernel_rfl))⟩
                  · intro s0 s1 s2 s3 s4 s5 s6 s7 s8 s9 s10 s11 hc hi hp a w hS
                    obtain rfl : s6 = false := hi
                    obtain rfl : s5 = true := hp 5 (by kernel_rfl)
                    obtain ⟨bb20, AA21, cc21, bb22, AA23, cc23, hF, hM⟩ := hS
                    refine eN 151 20 (t := 3) (fun b => .slice (some ⟨b, 0, none⟩) 1 1) #[.int .i64 (slv - (srt * spr - 1048576) * (pr lcr k).2)] hF hM (by kernel_rfl) (fun _ => by kernel_rfl) fun bb22 a w hF hM => ?_
                    exact ⟨bb20, AA21, cc21, bb22, AA23, cc23, ((hF.repl 121 (by kernel_rfl)).cast (by kernel_rfl)), ((hM.repl 10 (by kernel_rfl)).cast (by kernel_rfl))⟩
                  · intro s0 s1 s2 s3 s4 s5 s6 s7 s8 s9 s10 s11 hc hi hp a w hS
                    obtain rfl : s7 = false := hi
                    obtain rfl : s6 = true := hp 6 (by kernel_rfl)
                    obtain rfl : s4 = true := hp 4 (by kernel_rfl)
                    obtain rfl : s10 = false := hc.f 10 7 (by kernel_rfl) rfl
                    obtain ⟨bb20, AA21, cc21, bb22, AA23, cc23, hF, hM⟩ := hS
                    refine sApp 152 10 (e := 3) (size := 1) (bytes := 8) (z := .int .i64 0) (m := 1) (c := 1) (l := k) (cap := c2) (A := G2) (news := [.int .i64 (slv - (srt * spr - 1048576) * (pr lcr k).2)]) ((LL ++ [slv - (srt * spr - 1048576) * (pr lcr k).2]).map (Value.int .i64)) hF hM (by kernel_rfl) rfl (by kernel_rfl) (by kernel_rfl) (by kernel_rfl) rfl rfl rfl rfl (roR 20 rfl) (by simp [Value.oneCell']) (by omega) (by decide) (map_snoc' _ _ _) fun AA23 cc23 a w hF hM => ?_
                    exact ⟨bb20, AA21, cc21, bb22, AA23, cc23, ((hF.repl 122 (by kernel_rfl)).cast (by kernel_rfl)), ((hM.repl 7 (by kernel_rfl)).cast (by kernel_rfl))⟩
                  · intro s0 s1 s2 s3 s4 s5 s6 s7 s8 s9 s10 s11 hc hi hp a w hS
                    obtain rfl : s8 = false := hi
                    obtain ⟨bb20, AA21, cc21, bb22, AA23, cc23, hF, hM⟩ := hS
                    refine eL 153 16 0 (v := .agg #[.int .i64 sat, .int .i64 slv]) hF hM (by kernel_rfl) rfl rfl (by kernel_rfl) (by kernel_rfl) fun a w hF hM => ?_
                    exact ⟨bb20, AA21, cc21, bb22, AA23, cc23, ((hF.repl 123 (by kernel_rfl)).cast (by kernel_rfl)), (hM.cast (by kernel_rfl))⟩
                  · intro s0 s1 s2 s3 s4 s5 s6 s7 s8 s9 s10 s11 hc hi hp a w hS
                    obtain rfl : s9 = false := hi
                    obtain rfl : s3 = true := hp 3 (by kernel_rfl)
                    obtain ⟨bb20, AA21, cc21, bb22, AA23, cc23, hF, hM⟩ := hS
                    refine eP 9 (v0 := .slice AA21 (k + 1) cc21) (v := .slice AA21 (k + 1) cc21) hF (by kernel_rfl) (fun _ => by kernel_rfl) rfl fun a hF => ?_
                    exact ⟨bb20, AA21, cc21, bb22, AA23, cc23, ((hF.repl 3 (by kernel_rfl)).cast (by kernel_rfl)), (hM.cast (by kernel_rfl))⟩
                  · intro s0 s1 s2 s3 s4 s5 s6 s7 s8 s9 s10 s11 hc hi hp a w hS
                    obtain rfl : s10 = false := hi
                    obtain rfl : s7 = true := hp 7 (by kernel_rfl)
                    obtain ⟨bb20, AA21, cc21, bb22, AA23, cc23, hF, hM⟩ := hS
                    refine eP 10 (v0 := .slice AA23 (k + 1) cc23) (v := .slice AA23 (k + 1) cc23) hF (by kernel_rfl) (fun _ => by kernel_rfl) rfl fun a hF => ?_
                    exact ⟨bb20, AA21, cc21, bb22, AA23, cc23, ((hF.repl 4 (by kernel_rfl)).cast (by kernel_rfl)), (hM.cast (by kernel_rfl))⟩
                  · intro s0 s1 s2 s3 s4 s5 s6 s7 s8 s9 s10 s11 hc hi hp a w hS
                    obtain rfl : s11 = false := hi
                    obtain rfl : s8 = true := hp 8 (by kernel_rfl)
                    obtain ⟨bb20, AA21, cc21, bb22, AA23, cc23, hF, hM⟩ := hS
                    refine sStore (i := 8) (off := 0) (cs' := #[.int .i64 sat, .int .i64 slv]) hF hM (by kernel_rfl) rfl rfl (by kernel_rfl) (by kernel_rfl) rfl (by kernel_rfl) fun w hM => ?_
                    exact ⟨bb20, AA21, cc21, bb22, AA23, cc23, (hF.cast (by kernel_rfl)), ((hM.repl 5 (by kernel_rfl)).cast (by kernel_rfl))⟩
                · intro a w hS
                  obtain ⟨bb20, AA21, cc21, bb22, AA23, cc23, hF, hM⟩ := hS
                  replace hF : Fr 196 [(2, some (.slice Fa free.length cf)), (7, some (.pointer (some ⟨bb4, 0, none⟩))), (8, some (.slice AA3 lcr.length cc3)), (9, some (.slice AA21 (k + 1) cc21)), (10, some (.slice AA23 (k + 1) cc23)), (11, some (.pointer (some ⟨bb5, 0, none⟩))), (12, some (.int .i64 (k : Int))), (13, some (.int .i64 0)), (14, some (.int .i64 sst)), (15, some (.pointer (some ⟨bb15, 0, none⟩))), (16, some (.int .i64 see)), (17, some (.int .i64 (slv - (srt * spr - 1048576) * (pr lcr k).2))), (32, some (.int .i64 (k : Int))), (33, some (.slice AA3 lcr.length cc3)), (34, some (.int .i64 (lcr.length : Int))), (35, some (.bool true)), (38, some (.int .i64 (k : Int))), (39, some (.slice Fa free.length cf)), (40, some (.int .i64 (free.length : Int))), (41, some (.bool false)), (48, some (.tuple #[.int .i64 sst, .agg #[.int .i64 sat, .int .i64 slv], .int .i64 see])), (49, some (.agg #[.int .i64 srt, .int .i64 spr])), (50, some (.agg #[.int .i64 aa, .int .i64 bl])), (51, some (.slice AA3 lcr.length cc3)), (52, some (.int .i64 (k : Int))), (53, some (.pointer (some (ea AA3 (k * 2))))), (54, some (.pointer (some (ea AA3 (k * 2))))), (55, some (.int .i64 (pr lcr k).1)), (56, some (.int .i64 0)), (57, some (.slice AA3 lcr.length cc3)), (58, some (.int .i64 (k : Int))), (59, some (.pointer (some (ea AA3 (k * 2))))), (60, some (.pointer (some (ea AA3 (k * 2 + 1))))), (61, some (.int .i64 (pr lcr k).2)), (62, some (.tuple #[.int .i64 sst, .agg #[.int .i64 sat, .int .i64 slv], .int .i64 see])), (63, some (.int .i64 sst)), (64, some (.agg #[.int .i64 sat, .int .i64 slv])), (65, some (.int .i64 see)), (66, some (.int .i64 see)), (67, some (.bool false)), (70, some (.pointer (some ⟨bb15, 1, none⟩))), (71, some (.int .i64 slv)), (72, some (.pointer (some ⟨bb4, 0, none⟩))), (73, some (.int .i64 srt)), (74, some (.pointer (some ⟨bb4, 1, none⟩))), (75, some (.int .i64 spr)), (76, some (.int .i64 (srt * spr))), (77, some (.int .i64 (srt * spr - 1048576))), (78, some (.slice AA3 lcr.length cc3)), (79, some (.int .i64 (k : Int))), (80, some (.pointer (some (ea AA3 (k * 2))))), (81, some (.pointer (some (ea AA3 (k * 2 + 1))))), (82, some (.int .i64 (pr lcr k).2)), (83, some (.int .i64 ((srt * spr - 1048576) * (pr lcr k).2))), (84, some (.int .i64 (slv - (srt * spr - 1048576) * (pr lcr k).2))), (85, some (.int .i64 (slv - (srt * spr - 1048576) * (pr lcr k).2))), (86, some (.bool false)), (87, some (.bool false)), (88, some (.pointer (some ⟨bb15, 1, none⟩))), (89, some (.int .i64 slv)), (90, some (.slice AA3 lcr.length cc3)), (91, some (.int .i64 (k : Int))), (92, some (.pointer (some (ea AA3 (k * 2))))), (93, some (.pointer (some (ea AA3 (k * 2 + 1))))), (94, some (.int .i64 (pr lcr k).2)), (95, some (.int .i64 (-1048576 * (pr lcr k).2))), (96, some (.bool false)), (97, some (.bool false)), (98, some (.bool false)), (99, some (.pointer (some ⟨bb15, 0, none⟩))), (100, some (.int .i64 sat)), (101, some (.int .i64 sst)), (102, some (.slice AA3 lcr.length cc3)), (103, some (.int .i64 (k : Int))), (104, some (.pointer (some (ea AA3 (k * 2))))), (105, some (.pointer (some (ea AA3 (k * 2 + 1))))), (106, some (.int .i64 (pr lcr k).2)), (107, some (.pointer (some ⟨bb4, 1, none⟩))), (108, some (.int .i64 spr)), (109, some (.int .i64 ((pr lcr k).2 * spr))), (110, some (.int .i64 (sst + (pr lcr k).2 * spr))), (111, some (.bool false)), (112, some (.bool false)), (113, some (.bool false)), (114, some (.int .i64 sst)), (115, some (.int .i64 0)), (116, some (.slice AA3 lcr.length cc3)), (117, some (.int .i64 (k : Int))), (118, some (.pointer (some (ea AA3 (k * 2))))), (119, some (.pointer (some (ea AA3 (k * 2))))), (120, some (.int .i64 (pr lcr k).1)), (121, some (.pointer (some ⟨bb5, 0, none⟩))), (122, some (.int .i64 aa)), (123, some (.int .i64 (max (pr lcr k).1 aa))), (124, some (.int .i64 (max 0 (max (pr lcr k).1 aa)))), (125, some (.bool false)), (126, some (.bool false)), (127, some (.int .i64 sst)), (128, some (.int .i64 0)), (129, some (.slice AA3 lcr.length cc3)), (130, some (.int .i64 (k : Int))), (131, some (.pointer (some (ea AA3 (k * 2))))), (132, some (.pointer (some (ea AA3 (k * 2))))), (133, some (.int .i64 (pr lcr k).1)), (134, some (.pointer (some ⟨bb5, 0, none⟩))), (135, some (.int .i64 aa)), (136, some (.int .i64 (max (pr lcr k).1 aa))), (137, some (.int .i64 (max 0 (max (pr lcr k).1 aa)))), (138, some (.bool false)), (139, some (.bool false)), (140, some (undef)), (141, some (undef)), (142, some (undef)), (143, some (undef)), (144, some (.bool false)), (145, some (.slice G1 k c1)), (146, some (.int .i64 sst)), (147, some (.slice (some ⟨bb20, 0, none⟩) 1 1)), (148, some (.slice AA21 (k + 1) cc21)), (149, some (.slice G2 k c2)), (150, some (.int .i64 (slv - (srt * spr - 1048576) * (pr lcr k).2))), (151, some (.slice (some ⟨bb22, 0, none⟩) 1 1)), (152, some (.slice AA23 (k + 1) cc23)), (153, some (.agg #[.int .i64 sat, .int .i64 slv]))] a := hF.cast (by kernel_rfl)
                  replace hM : Mem w0.heap.size w0 [(1, some (.ro Ga (gaps.map (Value.int .u16)))), (2, some (.ro Sa (sizes.map (Value.int .u16)))), (3, some (.ro Fa (free.map (Value.int .u16)))), (6, some (.own (.slice AA3 lcr.length cc3) 57 2 lcr.length (flat2 lcr))), (7, some (.row bb4 23 #[.int .i64 srt, .int .i64 spr])), (8, some (.row bb5 40 #[.int .i64 sat, .int .i64 slv])), (9, some (.own (.slice AA21 (k + 1) cc21) 3 1 (k + 1) ((SS ++ [sst]).map (Value.int .i64)))), (10, some (.own (.slice AA23 (k + 1) cc23) 3 1 (k + 1) ((LL ++ [slv - (srt * spr - 1048576) * (pr lcr k).2]).map (Value.int .i64)))), (16, some (.row bb15 40 #[.int .i64 sat, .int .i64 slv])), (19, some (.row bb20 3 #[.int .i64 sst])), (20, some (.row bb22 3 #[.int .i64 (slv - (srt * spr - 1048576) * (pr lcr k).2)]))] w := hM.cast (by kernel_rfl)
                  refine hK12 _ _ ?_
                  refine wp_region_lit ?_
                  refine sB 1 [(36, .int .i64 (k : Int))] hF (by kernel_rfl) fun a hF => ?_
                  refine wl (eP 37 (v0 := .int .i64 (IntKind.i64.wrap ((k : Int) + 1))) (v := .int .i64 ((k : Int) + 1)) hF (by kernel_rfl) (fun _ => by kernel_rfl) (wi (by omega)) fun a hF => ?_)
                  refine sB 1 [(12, .int .i64 ((k : Int) + 1))] hF (by kernel_rfl) fun a hF => ?_
                  refine wpList_nil ?_
                  refine hK9 _ _ ⟨(k + 1, sat, slv, SS ++ [sst], LL ++ [slv - (srt * spr - 1048576) * (pr lcr k).2], AA21, cc21, AA23, cc23), ⟨((((((((Fr.nil hF).c hF (i := 11) rfl rfl).c hF (i := 8) rfl rfl).c hF (i := 7) rfl rfl).c hF (i := 2) rfl rfl).c hF (i := 12) rfl (vi (show ((k : Int) + 1 : Int) = ((k + 1) : Int) from by omega))).c hF (i := 10) rfl rfl).c hF (i := 9) rfl rfl), (hM.sub ((((((((Sub.nil.c (k := 10) rfl rfl).c (k := 9) rfl rfl).c (k := 8) rfl rfl).c (k := 7) rfl rfl).c (k := 6) rfl rfl).c (k := 3) rfl rfl).c (k := 2) rfl rfl).c (k := 1) rfl rfl)), (show ((k + 1) : Int) ≤ (lcr.length : Int) from by omega), (show ((SS ++ [sst]).length : Int) = ((k + 1) : Int) from by simp; omega), (show ((LL ++ [slv - (srt * spr - 1048576) * (pr lcr k).2]).length : Int) = ((k + 1) : Int) from by simp; omega), (show Sh srt lcr (k + 1) (SS ++ [sst]) (LL ++ [slv - (srt * spr - 1048576) * (pr lcr k).2]) sat slv from by exact hnx)⟩, (show lcr.length - (k + 1) < lcr.length - k from by omega)⟩
            · skip
              replace hF := hF.c hF (i := 67) (v := .bool true) rfl (nF hz11)
              refine cT hF (by kernel_rfl) (by kernel_rfl) ?_
              refine wp_seq_k fun K35 hK35 => ?_
              have hse : see = 6 := by rw [e_see]; exact cst_six (free := 0) hslo hSh.st htim hfre hprk.2.2.1 hprk.2.2.2 (by rw [← e_see]; omega)
              refine wp_region_lit ?_
              refine sB 1 [(68, .int .i64 see)] hF (by kernel_rfl) fun a hF => ?_
              refine wl (eP 69 (v0 := .bool (decide (see = 6))) (v := .bool true) hF (by kernel_rfl) (fun _ => by kernel_rfl) (bT (by omega)) fun a hF => ?_)
              refine sB 1 [(6, .bool true)] hF (by kernel_rfl) fun a hF => ?_
              refine wpList_nil ?_
              refine hK35 _ _ ?_
              refine wp_ret ?_
              refine hR0 _ _ ?_
              refine ret_of hF hM (.tmp rfl (.nil)) ?_
              exact ⟨rfl, hM.bel⟩
      · skip
        replace hF := hF.c hF (i := 35) (v := .bool false) rfl (bF hz5)
        refine cF hF (by kernel_rfl) (by kernel_rfl) ?_
        refine wp_exit ?_
        refine hK7 _ _ ?_
        refine wp_seq_k fun K36 hK36 => ?_
        refine wp_seq_k fun K37 hK37 => ?_
        refine wp_region_lit ?_
        refine sB 1 [(18, .int .i64 0)] hF (by kernel_rfl) fun a hF => ?_
        refine wpList_nil ?_
        refine hK37 _ _ ?_
        refine wp_block ?_
        refine wp_loop_k (G := Nat) (fun gg a w => Fr 196 [(18, some (.int .i64 (gg : Int))), (7, some (.pointer (some ⟨bb4, 0, none⟩))), (8, some (.slice AA3 lcr.length cc3)), (9, some (.slice G1 k c1)), (10, some (.slice G2 k c2))] a ∧ Mem w0.heap.size w0 [(1, some (.ro Ga (gaps.map (Value.int .u16)))), (2, some (.ro Sa (sizes.map (Value.int .u16)))), (3, some (.ro Fa (free.map (Value.int .u16)))), (6, some (.own (.slice AA3 lcr.length cc3) 57 2 lcr.length (flat2 lcr))), (7, some (.row bb4 23 #[.int .i64 srt, .int .i64 spr])), (9, some (.own (.slice G1 k c1) 3 1 k (SS.map (Value.int .i64)))), (10, some (.own (.slice G2 k c2) 3 1 k (LL.map (Value.int .i64))))] w ∧ ((gg : Int) ≤ (lcr.length : Int))) (fun gg => lcr.length - gg) (0) ?_ ?_
        · refine ⟨((((((Fr.nil hF).c hF (i := 10) rfl rfl).c hF (i := 9) rfl rfl).c hF (i := 8) rfl rfl).c hF (i := 7) rfl rfl).c hF (i := 18) rfl (vi (show (0 : Int) = (0 : Int) from by omega))), (hM.sub (((((((Sub.nil.c (k := 10) rfl rfl).c (k := 9) rfl rfl).c (k := 7) rfl rfl).c (k := 6) rfl rfl).c (k := 3) rfl rfl).c (k := 2) rfl rfl).c (k := 1) rfl rfl)), (show (0 : Int) ≤ (lcr.length : Int) from by omega)⟩
        · intro gg a w hI
          intro K38 hK38
          obtain ⟨i, rfl⟩ : ∃ x, x = gg := ⟨_, rfl⟩
          try dsimp only at hI hK38
          obtain ⟨hF, hM, hz15⟩ := hI
          refine wp_seq_k fun K39 hK39 => ?_
          refine wp_seq_k fun K40 hK40 => ?_
          refine wp_region_lit ?_
          refine sB 4 [(154, .int .i64 (i : Int)), (155, .slice AA3 lcr.length cc3), (156, .int .i64 (lcr.length : Int)), (157, .bool (decide ((i : Int) < (lcr.length : Int))))] hF (by kernel_rfl) fun a hF => ?_
          refine wpList_nil ?_
          refine hK40 _ _ ?_
          by_cases hz16 : (i : Int) < (lcr.length : Int)
          · skip
            replace hF := hF.c hF (i := 157) (v := .bool true) rfl (bT hz16)
            refine cT hF (by kernel_rfl) (by kernel_rfl) ?_
            refine wp_skip ?_
            refine hK39 _ _ ?_
            refine wp_seq_k fun K41 hK41 => ?_
            refine wp_block ?_
            refine wp_seq_k fun K42 hK42 => ?_
            refine wp_region_lit ?_
            refine sB 1 [(19, .int .i64 0)] hF (by kernel_rfl) fun a hF => ?_
            refine wpList_nil ?_
            refine hK42 _ _ ?_
            refine wp_seq_k fun K43 hK43 => ?_
            refine wp_region_lit ?_
            refine sB 1 [(160, .int .i64 (i : Int))] hF (by kernel_rfl) fun a hF => ?_
            refine wl (eP 161 (v0 := .int .i64 (IntKind.i64.wrap ((i : Int) + 1))) (v := .int .i64 ((i : Int) + 1)) hF (by kernel_rfl) (fun _ => by kernel_rfl) (wi (by omega)) fun a hF => ?_)
            refine sB 1 [(20, .int .i64 ((i : Int) + 1))] hF (by kernel_rfl) fun a hF => ?_
            refine wpList_nil ?_
            refine hK43 _ _ ?_
            refine wp_block ?_
            refine wp_loop_k (G := Nat) (fun gg a w => Fr 196 [(19, some (.int .i64 (sumTo lcr gg - sumTo lcr i))), (20, some (.int .i64 ((gg : Int) + 1))), (7, some (.pointer (some ⟨bb4, 0, none⟩))), (8, some (.slice AA3 lcr.length cc3)), (9, some (.slice G1 k c1)), (10, some (.slice G2 k c2)), (18, some (.int .i64 (i : Int))), (154, some (.int .i64 (i : Int))), (155, some (.slice AA3 lcr.length cc3)), (156, some (.int .i64 (lcr.length : Int))), (157, some (.bool true)), (160, some (.int .i64 (i : Int))), (161, some (.int .i64 ((i : Int) + 1)))] a ∧ Mem w0.heap.size w0 [(1, some (.ro Ga (gaps.map (Value.int .u16)))), (2, some (.ro Sa (sizes.map (Value.int .u16)))), (3, some (.ro Fa (free.map (Value.int .u16)))), (6, some (.own (.slice AA3 lcr.length cc3) 57 2 lcr.length (flat2 lcr))), (7, some (.row bb4 23 #[.int .i64 srt, .int .i64 spr])), (9, some (.own (.slice G1 k c1) 3 1 k (SS.map (Value.int .i64)))), (10, some (.own (.slice G2 k c2) 3 1 k (LL.map (Value.int .i64))))] w ∧ ((gg : Int) + 1 ≤ (lcr.length : Int)) ∧ ((i : Int) ≤ (gg : Int))) (fun gg => lcr.length - gg) (i) ?_ ?_
            · refine ⟨((((((((((((((Fr.nil hF).c hF (i := 161) rfl rfl).c hF (i := 160) rfl rfl).c hF (i := 157) rfl rfl).c hF (i := 156) rfl rfl).c hF (i := 155) rfl rfl).c hF (i := 154) rfl rfl).c hF (i := 18) rfl rfl).c hF (i := 10) rfl rfl).c hF (i := 9) rfl rfl).c hF (i := 8) rfl rfl).c hF (i := 7) rfl rfl).c hF (i := 20) rfl rfl).c hF (i := 19) rfl (vi (show (0 : Int) = sumTo lcr i - sumTo lcr i from by omega))), (hM.sub (((((((Sub.nil.c (k := 10) rfl rfl).c (k := 9) rfl rfl).c (k := 7) rfl rfl).c (k := 6) rfl rfl).c (k := 3) rfl rfl).c (k := 2) rfl rfl).c (k := 1) rfl rfl)), (show (i : Int) + 1 ≤ (lcr.length : Int) from by omega), (show (i : Int) ≤ (i : Int) from by omega)⟩
            · intro gg a w hI
              intro K44 hK44
              obtain ⟨jj, rfl⟩ : ∃ x, x = gg := ⟨_, rfl⟩
              try dsimp only at hI hK44
              obtain ⟨hF, hM, hz17, hz18⟩ := hI
              refine wp_seq_k fun K45 hK45 => ?_
              refine wp_seq_k fun K46 hK46 => ?_
              refine wp_region_lit ?_
              refine sB 4 [(162, .int .i64 ((jj : Int) + 1)), (163, .slice AA3 lcr.length cc3), (164, .int .i64 (lcr.length : Int)), (165, .bool (decide ((jj : Int) + 1 < (lcr.length : Int))))] hF (by kernel_rfl) fun a hF => ?_
              refine wpList_nil ?_
              refine hK46 _ _ ?_
              by_cases hz19 : (jj : Int) + 1 < (lcr.length : Int)
              · skip
                replace hF := hF.c hF (i := 165) (v := .bool true) rfl (bT hz19)
                refine cT hF (by kernel_rfl) (by kernel_rfl) ?_
                refine wp_skip ?_
                refine hK45 _ _ ?_
                refine wp_seq_k fun K47 hK47 => ?_
                refine wp_block ?_
                refine wp_seq_k fun K48 hK48 => ?_
                have hbd1 := sumTo_bd (fun k hk => (pr_lcr k hk).2.2) jj (by omega)
                have hbd2 := sumTo_bd (fun k hk => (pr_lcr k hk).2.2) i (by omega)
                have hsuc : sumTo lcr (jj + 1) = sumTo lcr jj + (pr lcr jj).2 := sumTo_succ (a := (pr lcr jj).1) (pr_some (by omega))
                have hprj := pr_lcr jj (by omega)
                refine wp_region_lit ?_
                refine sB 3 [(168, .int .i64 (sumTo lcr jj - sumTo lcr i)), (169, .slice AA3 lcr.length cc3), (170, .int .i64 ((jj : Int) + 1))] hF (by kernel_rfl) fun a hF => ?_
                refine wl (eP 171 (v0 := .int .i64 (IntKind.i64.wrap ((jj : Int) + 1 - 1))) (v := .int .i64 ((jj : Int) + 1 - 1)) hF (by kernel_rfl) (fun _ => by kernel_rfl) (wi (by omega)) fun a hF => ?_)
                refine wl (eM 172 (v := .pointer (some (ea AA3 (jj * 2)))) hF hM (by kernel_rfl) (yld_ix (kd := .i64) (e := 57) (len := lcr.length) (cap := cc3) (i := (jj : Int) + 1 - 1) (size := 2) (A := AA3) hF rfl (by kernel_rfl) (by kernel_rfl) (by kernel_rfl) (by kernel_rfl) (by kernel_rfl) (roO 6 rfl) (by omega) (by omega) (by rw [flat2_length]; omega)) fun a w hF hM => ?_)
                refine sB 1 [(173, .pointer (some (ea AA3 (jj * 2 + 1))))] hF (by kernel_rfl) fun a hF => ?_
                refine wl (eM 174 (v := .int .i64 (pr lcr jj).2) hF hM (by kernel_rfl) (yld_ro1 (A := AA3) (j := jj * 2 + 1) hF rfl (by kernel_rfl) (by kernel_rfl) (roO 6 rfl) (by kernel_rfl) (pr_snd (k := jj) (by omega) (by omega))) fun a w hF hM => ?_)
                refine wl (eP 175 (v0 := .int .i64 (IntKind.i64.wrap (sumTo lcr jj - sumTo lcr i + (pr lcr jj).2))) (v := .int .i64 (sumTo lcr jj - sumTo lcr i + (pr lcr jj).2)) hF (by kernel_rfl) (fun _ => by kernel_rfl) (wi (by omega)) fun a hF => ?_)
                refine sB 1 [(19, .int .i64 (sumTo lcr jj - sumTo lcr i + (pr lcr jj).2))] hF (by kernel_rfl) fun a hF => ?_
                refine wpList_nil ?_
                refine hK48 _ _ ?_
                refine wp_seq_k fun K49 hK49 => ?_
                have hp1 := hSh.pos i _ _ (nt_some (by omega)) (nt_some (by omega))
                have hp2 := hSh.pos (jj + 1) _ _ (nt_some (by omega)) (nt_some (by omega))
                have hshr := hSh.share (i := i) (j := jj + 1) (by omega) (by omega) (nt_some (by omega)) (nt_some (by omega)) (nt_some (by omega))
                refine rQ hM (by kernel_rfl) (by kernel_rfl) ?_
                refine eQ 176 (v0 := .int .i64 (sumTo lcr jj - sumTo lcr i + (pr lcr jj).2)) (v := .int .i64 (sumTo lcr jj - sumTo lcr i + (pr lcr jj).2)) hF (by kernel_rfl) (fun _ => by kernel_rfl) rfl fun a hF => ?_
                refine eQ 177 (v0 := .int .i64 (IntKind.i64.wrap ((sumTo lcr jj - sumTo lcr i + (pr lcr jj).2) * 1048576))) (v := .int .i64 ((sumTo lcr jj - sumTo lcr i + (pr lcr jj).2) * 1048576)) hF (by kernel_rfl) (fun _ => by kernel_rfl) (wi (by omega)) fun a hF => ?_
                refine eQ 178 (v0 := .pointer (some ⟨bb4, 0, none⟩)) (v := .pointer (some ⟨bb4, 0, none⟩)) hF (by kernel_rfl) (fun _ => by kernel_rfl) rfl fun a hF => ?_
                refine eQL 179 7 0 (v := .int .i64 srt) hF (by kernel_rfl) rfl rfl (by kernel_rfl) (by kernel_rfl) fun a hF => ?_
                refine eQ 180 (v0 := .slice G1 k c1) (v := .slice G1 k c1) hF (by kernel_rfl) (fun _ => by kernel_rfl) rfl fun a hF => ?_
                refine eQ 181 (v0 := .int .i64 ((jj : Int) + 1)) (v := .int .i64 ((jj : Int) + 1)) hF (by kernel_rfl) (fun _ => by kernel_rfl) rfl fun a hF => ?_
                refine eQ2 182 (v := .pointer (some (ea G1 (jj + 1)))) hF (by kernel_rfl) (yld_ix (kd := .i64) (e := 3) (len := k) (cap := c1) (i := (jj : Int) + 1) (size := 1) (A := G1) hF rfl (by kernel_rfl) (by kernel_rfl) (by kernel_rfl) (by kernel_rfl) (by kernel_rfl) (roO 9 rfl) (by omega) (by omega) (by rw [List.length_map]; omega)) fun a hF => ?_
                refine eQ2 183 (v := .int .i64 (nt SS (jj + 1))) hF (by kernel_rfl) (yld_ro1 (A := G1) (j := jj + 1) hF rfl (by kernel_rfl) (by kernel_rfl) (roO 9 rfl) (by kernel_rfl) (nt_at (by omega))) fun a hF => ?_
                refine eQ 184 (v0 := .slice G1 k c1) (v := .slice G1 k c1) hF (by kernel_rfl) (fun _ => by kernel_rfl) rfl fun a hF => ?_
                refine eQ 185 (v0 := .int .i64 (i : Int)) (v := .int .i64 (i : Int)) hF (by kernel_rfl) (fun _ => by kernel_rfl) rfl fun a hF => ?_
                refine eQ2 186 (v := .pointer (some (ea G1 (i)))) hF (by kernel_rfl) (yld_ix (kd := .i64) (e := 3) (len := k) (cap := c1) (i := (i : Int)) (size := 1) (A := G1) hF rfl (by kernel_rfl) (by kernel_rfl) (by kernel_rfl) (by kernel_rfl) (by kernel_rfl) (roO 9 rfl) (by omega) (by omega) (by rw [List.length_map]; omega)) fun a hF => ?_
                refine eQ2 187 (v := .int .i64 (nt SS i)) hF (by kernel_rfl) (yld_ro1 (A := G1) (j := i) hF rfl (by kernel_rfl) (by kernel_rfl) (roO 9 rfl) (by kernel_rfl) (nt_at (by omega))) fun a hF => ?_
                refine eQ 188 (v0 := .int .i64 (IntKind.i64.wrap (nt SS (jj + 1) - nt SS i))) (v := .int .i64 (nt SS (jj + 1) - nt SS i)) hF (by kernel_rfl) (fun _ => by kernel_rfl) (wi (by omega)) fun a hF => ?_
                have hz20 : -4503595332403200 ≤ srt * (nt SS (jj + 1) - nt SS i) ∧ srt * (nt SS (jj + 1) - nt SS i) ≤ 4503595332403200 := mul_bd (1) (1048575) (-4294967296) (4294967296) (by omega) (by omega) (by omega) (by omega) (by decide)
                refine eQ 189 (v0 := .int .i64 (IntKind.i64.wrap (srt * (nt SS (jj + 1) - nt SS i)))) (v := .int .i64 (srt * (nt SS (jj + 1) - nt SS i))) hF (by kernel_rfl) (fun _ => by kernel_rfl) (wi (by omega)) fun a hF => ?_
                refine eQ 190 (v0 := .slice G2 k c2) (v := .slice G2 k c2) hF (by kernel_rfl) (fun _ => by kernel_rfl) rfl fun a hF => ?_
                refine eQ 191 (v0 := .int .i64 (i : Int)) (v := .int .i64 (i : Int)) hF (by kernel_rfl) (fun _ => by kernel_rfl) rfl fun a hF => ?_
                refine eQ2 192 (v := .pointer (some (ea G2 (i)))) hF (by kernel_rfl) (yld_ix (kd := .i64) (e := 3) (len := k) (cap := c2) (i := (i : Int)) (size := 1) (A := G2) hF rfl (by kernel_rfl) (by kernel_rfl) (by kernel_rfl) (by kernel_rfl) (by kernel_rfl) (roO 10 rfl) (by omega) (by omega) (by rw [List.length_map]; omega)) fun a hF => ?_
                refine eQ2 193 (v := .int .i64 (nt LL i)) hF (by kernel_rfl) (yld_ro1 (A := G2) (j := i) hF rfl (by kernel_rfl) (by kernel_rfl) (roO 10 rfl) (by kernel_rfl) (nt_at (by omega))) fun a hF => ?_
                refine eQ 194 (v0 := .int .i64 (IntKind.i64.wrap (srt * (nt SS (jj + 1) - nt SS i) + nt LL i))) (v := .int .i64 (srt * (nt SS (jj + 1) - nt SS i) + nt LL i)) hF (by kernel_rfl) (fun _ => by kernel_rfl) (wi (by omega)) fun a hF => ?_
                refine eQ 195 (v0 := .bool (decide (srt * (nt SS (jj + 1) - nt SS i) + nt LL i < (sumTo lcr jj - sumTo lcr i + (pr lcr jj).2) * 1048576))) (v := .bool false) hF (by kernel_rfl) (fun _ => by kernel_rfl) (bF (by omega)) fun a hF => ?_
                refine wpQuiet_nil ?_
                intro w hM
                refine hK49 _ _ ?_
                refine cF hF (by kernel_rfl) (by kernel_rfl) ?_
                refine wp_skip ?_
                refine hK47 _ _ ?_
                refine wp_region_lit ?_
                refine sB 1 [(166, .int .i64 ((jj : Int) + 1))] hF (by kernel_rfl) fun a hF => ?_
                refine wl (eP 167 (v0 := .int .i64 (IntKind.i64.wrap ((jj : Int) + 1 + 1))) (v := .int .i64 ((jj : Int) + 1 + 1)) hF (by kernel_rfl) (fun _ => by kernel_rfl) (wi (by omega)) fun a hF => ?_)
                refine sB 1 [(20, .int .i64 ((jj : Int) + 1 + 1))] hF (by kernel_rfl) fun a hF => ?_
                refine wpList_nil ?_
                refine hK44 _ _ ⟨(jj + 1), ⟨((((((((((((((Fr.nil hF).c hF (i := 161) rfl rfl).c hF (i := 160) rfl rfl).c hF (i := 157) rfl rfl).c hF (i := 156) rfl rfl).c hF (i := 155) rfl rfl).c hF (i := 154) rfl rfl).c hF (i := 18) rfl rfl).c hF (i := 10) rfl rfl).c hF (i := 9) rfl rfl).c hF (i := 8) rfl rfl).c hF (i := 7) rfl rfl).c hF (i := 20) rfl (vi (show ((jj : Int) + 1 + 1 : Int) = ((jj + 1) : Int) + 1 from by omega))).c hF (i := 19) rfl (vi (show (sumTo lcr jj - sumTo lcr i + (pr lcr jj).2 : Int) = sumTo lcr (jj + 1) - sumTo lcr i from by omega))), (hM.sub (((((((Sub.nil.c (k := 10) rfl rfl).c (k := 9) rfl rfl).c (k := 7) rfl rfl).c (k := 6) rfl rfl).c (k := 3) rfl rfl).c (k := 2) rfl rfl).c (k := 1) rfl rfl)), (show ((jj + 1) : Int) + 1 ≤ (lcr.length : Int) from by omega), (show (i : Int) ≤ ((jj + 1) : Int) from by omega)⟩, (show lcr.length - (jj + 1) < lcr.length - jj from by omega)⟩
              · skip
                replace hF := hF.c hF (i := 165) (v := .bool false) rfl (bF hz19)
                refine cF hF (by kernel_rfl) (by kernel_rfl) ?_
                refine wp_exit ?_
                refine hK41 _ _ ?_
                refine wp_region_lit ?_
                refine sB 1 [(158, .int .i64 (i : Int))] hF (by kernel_rfl) fun a hF => ?_
                refine wl (eP 159 (v0 := .int .i64 (IntKind.i64.wrap ((i : Int) + 1))) (v := .int .i64 ((i : Int) + 1)) hF (by kernel_rfl) (fun _ => by kernel_rfl) (wi (by omega)) fun a hF => ?_)
                refine sB 1 [(18, .int .i64 ((i : Int) + 1))] hF (by kernel_rfl) fun a hF => ?_
                refine wpList_nil ?_
                refine hK38 _ _ ⟨(i + 1), ⟨((((((Fr.nil hF).c hF (i := 10) rfl rfl).c hF (i := 9) rfl rfl).c hF (i := 8) rfl rfl).c hF (i := 7) rfl rfl).c hF (i := 18) rfl (vi (show ((i : Int) + 1 : Int) = ((i + 1) : Int) from by omega))), (hM.sub (((((((Sub.nil.c (k := 10) rfl rfl).c (k := 9) rfl rfl).c (k := 7) rfl rfl).c (k := 6) rfl rfl).c (k := 3) rfl rfl).c (k := 2) rfl rfl).c (k := 1) rfl rfl)), (show ((i + 1) : Int) ≤ (lcr.length : Int) from by omega)⟩, (show lcr.length - (i + 1) < lcr.length - i from by omega)⟩
          · skip
            replace hF := hF.c hF (i := 157) (v := .bool false) rfl (bF hz16)
            refine cF hF (by kernel_rfl) (by kernel_rfl) ?_
            refine wp_exit ?_
            refine hK36 _ _ ?_
            refine wp_seq_k fun K50 hK50 => ?_
            refine wp_region_lit ?_
            refine sB 1 [(6, .bool true)] hF (by kernel_rfl) fun a hF => ?_
            refine wpList_nil ?_
            refine hK50 _ _ ?_
            refine wp_ret ?_
            refine hR0 _ _ ?_
            refine ret_of hF hM (.tmp rfl (.nil)) ?_
            exact ⟨rfl, hM.bel⟩

end Go.Proofs.Ytjepnlebmgkomaa
