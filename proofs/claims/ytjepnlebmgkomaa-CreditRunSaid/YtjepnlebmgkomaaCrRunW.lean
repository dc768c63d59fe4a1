/-
  The walk of CreditRun.
-/
import Derived.Test.YtjepnlebmgkomaaCrF
namespace Go.Proofs.Ytjepnlebmgkomaa
open Go.RowKit
set_option linter.unusedVariables false
set_option linter.unusedSimpArgs false

set_option maxRecDepth 100000 in
set_option maxHeartbeats 4000000 in
theorem creditRun_walk (na nb : Int) (bu ra : Int) (Ga : Option Addr) (gaps : List Int) (cg : Nat) (Sa : Option Addr) (sizes : List Int) (cs : Nat) (Fa : Option Addr) (free : List Int) (cf : Nat) (lt : Int) (w0 : World) (hGa : Ro w0 Ga (gaps.map (Value.int .u16))) (hSa : Ro w0 Sa (sizes.map (Value.int .u16))) (hg : All16 gaps) (hs : All16 sizes) (hmg : gaps.length ≤ 9223372036854775807) (hms : sizes.length ≤ 9223372036854775807) (hFa : Ro w0 Fa (free.map (Value.int .u16))) (hf : All16 free) (hmf : free.length ≤ 9223372036854775807) (h : 0 ≤ na ∧ na < 4294967296 ∧ 0 ≤ nb ∧ nb < 4294967296 ∧ 0 ≤ lt ∧ lt < 65536) :
    Calls Try.prog 6 #[.agg #[.int .u32 na, .int .u32 nb], .agg #[.int .u32 bu, .int .u32 ra, .slice Ga gaps.length cg, .slice Sa sizes.length cs], .slice Fa free.length cf, .int .u16 lt] w0 (Ret w0 (.bool true)) := by
  refine enterK 217 Try.func6 rfl rfl rfl ?_
  intro a hF Q0 hR0 hN0
  have hM := Mem.start w0
  replace hM := hM.addOld 1 hGa (Nat.le_refl _)
  replace hM := hM.addOld 2 hSa (Nat.le_refl _)
  replace hM := hM.addOld 3 hFa (Nat.le_refl _)
  refine wp_seq_k fun K1 hK1 => ?_
  refine wp_region_lit ?_
  refine wl (eN 4 4 (t := 30) (fun b => .pointer (some ⟨b, 0, none⟩)) #[.int .u32 na, .int .u32 nb] hF hM (by kernel_rfl) (fun _ => by kernel_rfl) fun bb1 a w hF hM => ?_)
  refine wl (eN 5 5 (t := 28) (fun b => .pointer (some ⟨b, 0, none⟩)) #[.int .u32 bu, .int .u32 ra, .slice Ga gaps.length cg, .slice Sa sizes.length cs] hF hM (by kernel_rfl) (fun _ => by kernel_rfl) fun bb2 a w hF hM => ?_)
  refine sB 1 [(8, .bool false)] hF (by kernel_rfl) fun a hF => ?_
  refine wpList_nil ?_
  refine hK1 _ _ ?_
  refine wp_seq_k fun K2 hK2 => ?_
  refine wp_seq_k fun K3 hK3 => ?_
  refine wp_region_lit ?_
  refine wl (eM 26 (v := .bool true) hF hM (by kernel_rfl) (yld_call (f := 15) (args := #[]) hF (by kernel_rfl) (fun _ => by kernel_rfl) (fun w hM => works_w w)) fun a w hF hM => ?_)
  refine sB 1 [(27, .bool false)] hF (by kernel_rfl) fun a hF => ?_
  refine wpList_nil ?_
  refine hK3 _ _ ?_
  refine cF hF (by kernel_rfl) (by kernel_rfl) ?_
  refine wp_skip ?_
  refine hK2 _ _ ?_
  refine wp_seq_k fun K4 hK4 => ?_
  obtain ⟨srt, e_srt⟩ : ∃ x : Int, x = ofR na (nb % 65536) := ⟨_, rfl⟩
  obtain ⟨spr, e_spr⟩ : ∃ x : Int, x = ofP (nb % 65536) := ⟨_, rfl⟩
  have hslo : slopeE srt spr = 0 := by rw [e_srt, e_spr]; exact of_slope (by omega) (by omega)
  have := slopeE_ok hslo
  obtain ⟨lcr, e_lcr⟩ : ∃ x : List (Int × Int), x = crTr gaps sizes := ⟨_, rfl⟩
  have tr_lcr : trE lcr = 0 := by rw [e_lcr]; exact crTr_trE hg hs
  have le_lcr : lcr.length ≤ 30 := by rw [e_lcr]; exact crTr_le _ _
  have pr_lcr : ∀ k, k < lcr.length → 0 ≤ (pr lcr k).1 ∧ (pr lcr k).1 ≤ 1966050 ∧ 1 ≤ (pr lcr k).2 ∧ (pr lcr k).2 ≤ 1542 := by rw [e_lcr]; exact fun k hk => crTr_pr hg hs hk
  refine rF (by kernel_rfl) (by kernel_rfl) (fun S a w => ∃ AA3 : Option Addr, ∃ cc3 : Nat, ∃ bb4 : Nat, Fr 217 [(2, some (.slice Fa free.length cf)), (3, some (.int .u16 lt)), (4, some (.pointer (some ⟨bb1, 0, none⟩))), (5, some (.pointer (some ⟨bb2, 0, none⟩))), (8, some (.bool false)), (9, (cond (S.getD 8 false) (some (.pointer (some ⟨bb4, 0, none⟩))) none)), (10, (cond (S.getD 10 false) (some (.slice AA3 lcr.length cc3)) none)), (28, (cond (S.getD 0 false) (some (.pointer (some ⟨bb1, 0, none⟩))) none)), (29, (cond (S.getD 1 false) (some (.int .u32 na)) none)), (30, (cond (S.getD 2 false) (some (.pointer (some ⟨bb1, 1, none⟩))) none)), (31, (cond (S.getD 3 false) (some (.int .u32 nb)) none)), (32, (cond (S.getD 4 false) (some (.int .u16 (nb % 65536))) none)), (33, (cond (S.getD 5 false) (some (.agg #[.int .i64 srt, .int .i64 spr])) none)), (34, (cond (S.getD 6 false) (some (.agg #[.int .u32 bu, .int .u32 ra, .slice Ga gaps.length cg, .slice Sa sizes.length cs])) none)), (35, (cond (S.getD 7 false) (some (.slice AA3 lcr.length cc3)) none))] a ∧ Mem w0.heap.size w0 [(1, some (.ro Ga (gaps.map (Value.int .u16)))), (2, some (.ro Sa (sizes.map (Value.int .u16)))), (3, some (.ro Fa (free.map (Value.int .u16)))), (4, some (.row bb1 30 #[.int .u32 na, .int .u32 nb])), (5, some (.row bb2 28 #[.int .u32 bu, .int .u32 ra, .slice Ga gaps.length cg, .slice Sa sizes.length cs])), (6, (cond (S.getD 7 false) (some (.own (.slice AA3 lcr.length cc3) 57 2 lcr.length (flat2 lcr))) none)), (7, (cond (S.getD 9 false) (some (.row bb4 23 #[.int .i64 srt, .int .i64 spr])) (cond (S.getD 8 false) (some (.row bb4 23 #[.int .i64 0, .int .i64 0])) none)))] w) ?_ ?_ ?_
  · exact ⟨none, 0, 0, ((((((((((((((((Fr.nil hF).co hF (i := 35) (by kernel_rfl)).co hF (i := 34) (by kernel_rfl)).co hF (i := 33) (by kernel_rfl)).co hF (i := 32) (by kernel_rfl)).co hF (i := 31) (by kernel_rfl)).co hF (i := 30) (by kernel_rfl)).co hF (i := 29) (by kernel_rfl)).co hF (i := 28) (by kernel_rfl)).co hF (i := 10) (by kernel_rfl)).co hF (i := 9) (by kernel_rfl)).co hF (i := 8) (by kernel_rfl)).co hF (i := 5) (by kernel_rfl)).co hF (i := 4) (by kernel_rfl)).co hF (i := 3) (by kernel_rfl)).co hF (i := 2) (by kernel_rfl)), hM.drew.sub (((((((Sub.nil.co (k := 7) (by kernel_rfl)).co (k := 6) (by kernel_rfl)).co (k := 5) (by kernel_rfl)).co (k := 4) (by kernel_rfl)).co (k := 3) (by kernel_rfl)).co (k := 2) (by kernel_rfl)).co (k := 1) (by kernel_rfl))⟩
  · refine stC ?_ (stC ?_ (stC ?_ (stC ?_ (stC ?_ (stC ?_ (stC ?_ (stC ?_ (stC ?_ (stC ?_ (stC ?_ (trivial)))))))))))
    · intro s0 s1 s2 s3 s4 s5 s6 s7 s8 s9 s10 hc hi hp a w hS
      obtain rfl : s0 = false := hi
      obtain ⟨AA3, cc3, bb4, hF, hM⟩ := hS
      refine eP 28 (v0 := .pointer (some ⟨bb1, 0, none⟩)) (v := .pointer (some ⟨bb1, 0, none⟩)) hF (by kernel_rfl) (fun _ => by kernel_rfl) rfl fun a hF => ?_
      exact ⟨AA3, cc3, bb4, ((hF.repl 7 (by kernel_rfl)).cast (by kernel_rfl)), (hM.cast (by kernel_rfl))⟩
    · intro s0 s1 s2 s3 s4 s5 s6 s7 s8 s9 s10 hc hi hp a w hS
      obtain rfl : s1 = false := hi
      obtain rfl : s0 = true := hp 0 (by kernel_rfl)
      obtain ⟨AA3, cc3, bb4, hF, hM⟩ := hS
      refine eL 29 4 0 (v := .int .u32 na) hF hM (by kernel_rfl) rfl rfl (by kernel_rfl) (by kernel_rfl) fun a w hF hM => ?_
      exact ⟨AA3, cc3, bb4, ((hF.repl 8 (by kernel_rfl)).cast (by kernel_rfl)), (hM.cast (by kernel_rfl))⟩
    · intro s0 s1 s2 s3 s4 s5 s6 s7 s8 s9 s10 hc hi hp a w hS
      obtain rfl : s2 = false := hi
      obtain ⟨AA3, cc3, bb4, hF, hM⟩ := hS
      refine eP 30 (v0 := .pointer (some ⟨bb1, 1, none⟩)) (v := .pointer (some ⟨bb1, 1, none⟩)) hF (by kernel_rfl) (fun _ => by kernel_rfl) rfl fun a hF => ?_
      exact ⟨AA3, cc3, bb4, ((hF.repl 9 (by kernel_rfl)).cast (by kernel_rfl)), (hM.cast (by kernel_rfl))⟩
    · intro s0 s1 s2 s3 s4 s5 s6 s7 s8 s9 s10 hc hi hp a w hS
      obtain rfl : s3 = false := hi
      obtain rfl : s2 = true := hp 2 (by kernel_rfl)
      obtain ⟨AA3, cc3, bb4, hF, hM⟩ := hS
      refine eL 31 4 1 (v := .int .u32 nb) hF hM (by kernel_rfl) rfl rfl (by kernel_rfl) (by kernel_rfl) fun a w hF hM => ?_
      exact ⟨AA3, cc3, bb4, ((hF.repl 10 (by kernel_rfl)).cast (by kernel_rfl)), (hM.cast (by kernel_rfl))⟩
    · intro s0 s1 s2 s3 s4 s5 s6 s7 s8 s9 s10 hc hi hp a w hS
      obtain rfl : s4 = false := hi
      obtain rfl : s3 = true := hp 3 (by kernel_rfl)
      obtain ⟨AA3, cc3, bb4, hF, hM⟩ := hS
      refine eP 32 (v0 := .int .u16 (IntKind.u16.wrap nb)) (v := .int .u16 (nb % 65536)) hF (by kernel_rfl) (fun _ => by kernel_rfl) (vi (u16_wrap _)) fun a hF => ?_
      exact ⟨AA3, cc3, bb4, ((hF.repl 11 (by kernel_rfl)).cast (by kernel_rfl)), (hM.cast (by kernel_rfl))⟩
    · intro s0 s1 s2 s3 s4 s5 s6 s7 s8 s9 s10 hc hi hp a w hS
      obtain rfl : s5 = false := hi
      obtain rfl : s4 = true := hp 4 (by kernel_rfl)
      obtain rfl : s1 = true := hp 1 (by kernel_rfl)
      obtain ⟨AA3, cc3, bb4, hF, hM⟩ := hS
      refine eM 33 (v := .agg #[.int .i64 srt, .int .i64 spr]) hF hM (by kernel_rfl) (yld_call (f := 9) (args := #[.int .u32 na, .int .u16 (nb % 65536)]) hF (by kernel_rfl) (fun _ => by kernel_rfl) (fun w hM => by rw [e_srt, e_spr]; exact crOf_w na (nb % 65536) w (by omega))) fun a w hF hM => ?_
      exact ⟨AA3, cc3, bb4, ((hF.repl 12 (by kernel_rfl)).cast (by kernel_rfl)), (hM.cast (by kernel_rfl))⟩
    · intro s0 s1 s2 s3 s4 s5 s6 s7 s8 s9 s10 hc hi hp a w hS
      obtain rfl : s6 = false := hi
      obtain ⟨AA3, cc3, bb4, hF, hM⟩ := hS
      refine eL 34 5 0 (v := .agg #[.int .u32 bu, .int .u32 ra, .slice Ga gaps.length cg, .slice Sa sizes.length cs]) hF hM (by kernel_rfl) rfl rfl (by kernel_rfl) (by kernel_rfl) fun a w hF hM => ?_
      exact ⟨AA3, cc3, bb4, ((hF.repl 13 (by kernel_rfl)).cast (by kernel_rfl)), (hM.cast (by kernel_rfl))⟩
    · intro s0 s1 s2 s3 s4 s5 s6 s7 s8 s9 s10 hc hi hp a w hS
      obtain rfl : s7 = false := hi
      obtain rfl : s6 = true := hp 6 (by kernel_rfl)
      obtain rfl : s10 = false := hc.f 10 7 (by kernel_rfl) rfl
      obtain ⟨AA3, cc3, bb4, hF, hM⟩ := hS
      refine sOwn 6 (f := 11) (args := #[.agg #[.int .u32 bu, .int .u32 ra, .slice Ga gaps.length cg, .slice Sa sizes.length cs]]) (mk := fun v => v) (e := 57) (size := 2) (m := lcr.length) (xs := (flat2 lcr)) hF hM (by kernel_rfl) rfl (by decide) (by kernel_rfl) (fun _ => by kernel_rfl) (by rw [e_lcr]; exact crTrace_w bu ra Ga gaps cg Sa sizes cs w (hM.ok 1 _ rfl) (hM.ok 2 _ rfl) hg hs (by omega) (by omega)) fun AA3 cc3 a w hF hM => ?_
      exact ⟨AA3, cc3, bb4, ((hF.repl 14 (by kernel_rfl)).cast (by kernel_rfl)), ((hM.repl 5 (by kernel_rfl)).cast (by kernel_rfl))⟩
    · intro s0 s1 s2 s3 s4 s5 s6 s7 s8 s9 s10 hc hi hp a w hS
      obtain rfl : s8 = false := hi
      obtain rfl : s9 = false := hc.f 9 8 (by kernel_rfl) rfl
      obtain ⟨AA3, cc3, bb4, hF, hM⟩ := hS
      refine eN 9 7 (t := 23) (fun b => .pointer (some ⟨b, 0, none⟩)) #[.int .i64 0, .int .i64 0] hF hM (by kernel_rfl) (fun _ => by kernel_rfl) fun bb4 a w hF hM => ?_
      exact ⟨AA3, cc3, bb4, ((hF.repl 5 (by kernel_rfl)).cast (by kernel_rfl)), ((hM.repl 6 (by kernel_rfl)).cast (by kernel_rfl))⟩
    · intro s0 s1 s2 s3 s4 s5 s6 s7 s8 s9 s10 hc hi hp a w hS
      obtain rfl : s9 = false := hi
      obtain rfl : s8 = true := hp 8 (by kernel_rfl)
      obtain rfl : s5 = true := hp 5 (by kernel_rfl)
      obtain ⟨AA3, cc3, bb4, hF, hM⟩ := hS
      refine sStore (i := 7) (off := 0) (cs' := #[.int .i64 srt, .int .i64 spr]) hF hM (by kernel_rfl) rfl rfl (by kernel_rfl) (by kernel_rfl) rfl (by kernel_rfl) fun w hM => ?_
      exact ⟨AA3, cc3, bb4, (hF.cast (by kernel_rfl)), ((hM.repl 6 (by kernel_rfl)).cast (by kernel_rfl))⟩
    · intro s0 s1 s2 s3 s4 s5 s6 s7 s8 s9 s10 hc hi hp a w hS
      obtain rfl : s10 = false := hi
      obtain rfl : s7 = true := hp 7 (by kernel_rfl)
      obtain ⟨AA3, cc3, bb4, hF, hM⟩ := hS
      refine eP 10 (v0 := .slice AA3 lcr.length cc3) (v := .slice AA3 lcr.length cc3) hF (by kernel_rfl) (fun _ => by kernel_rfl) rfl fun a hF => ?_
      exact ⟨AA3, cc3, bb4, ((hF.repl 6 (by kernel_rfl)).cast (by kernel_rfl)), (hM.cast (by kernel_rfl))⟩
  · intro a w hS
    obtain ⟨AA3, cc3, bb4, hF, hM⟩ := hS
    replace hF : Fr 217 [(2, some (.slice Fa free.length cf)), (3, some (.int .u16 lt)), (4, some (.pointer (some ⟨bb1, 0, none⟩))), (5, some (.pointer (some ⟨bb2, 0, none⟩))), (8, some (.bool false)), (9, some (.pointer (some ⟨bb4, 0, none⟩))), (10, some (.slice AA3 lcr.length cc3)), (28, some (.pointer (some ⟨bb1, 0, none⟩))), (29, some (.int .u32 na)), (30, some (.pointer (some ⟨bb1, 1, none⟩))), (31, some (.int .u32 nb)), (32, some (.int .u16 (nb % 65536))), (33, some (.agg #[.int .i64 srt, .int .i64 spr])), (34, some (.agg #[.int .u32 bu, .int .u32 ra, .slice Ga gaps.length cg, .slice Sa sizes.length cs])), (35, some (.slice AA3 lcr.length cc3))] a := hF.cast (by kernel_rfl)
    replace hM : Mem w0.heap.size w0 [(1, some (.ro Ga (gaps.map (Value.int .u16)))), (2, some (.ro Sa (sizes.map (Value.int .u16)))), (3, some (.ro Fa (free.map (Value.int .u16)))), (4, some (.row bb1 30 #[.int .u32 na, .int .u32 nb])), (5, some (.row bb2 28 #[.int .u32 bu, .int .u32 ra, .slice Ga gaps.length cg, .slice Sa sizes.length cs])), (6, some (.own (.slice AA3 lcr.length cc3) 57 2 lcr.length (flat2 lcr))), (7, some (.row bb4 23 #[.int .i64 srt, .int .i64 spr]))] w := hM.cast (by kernel_rfl)
    refine hK4 _ _ ?_
    refine wp_seq_k fun K5 hK5 => ?_
    refine wp_region_lit ?_
    refine sB 1 [(11, .slice none 0 0)] hF (by kernel_rfl) fun a hF => ?_
    refine wpList_nil ?_
    refine hK5 _ _ ?_
    refine wp_seq_k fun K6 hK6 => ?_
    have hJ6 : ∀ (ff : List Int) (G1 : Option Addr) (c1 : Nat) (a : Act) (w : World), Fr 217 [(11, some (.slice G1 ff.length c1)), (3, some (.int .u16 lt)), (8, some (.bool false)), (9, some (.pointer (some ⟨bb4, 0, none⟩))), (10, some (.slice AA3 lcr.length cc3))] a → Mem w0.heap.size w0 [(1, some (.ro Ga (gaps.map (Value.int .u16)))), (2, some (.ro Sa (sizes.map (Value.int .u16)))), (3, some (.ro Fa (free.map (Value.int .u16)))), (6, some (.own (.slice AA3 lcr.length cc3) 57 2 lcr.length (flat2 lcr))), (7, some (.row bb4 23 #[.int .i64 srt, .int .i64 spr])), (8, some (.own (.slice G1 ff.length c1) 3 1 ff.length (ff.map (Value.int .i64))))] w → ((ff.length : Int) ≤ (lcr.length : Int)) → (ff.all timeB = true) → K6 a w := by
      intro ff G1 c1 a w hF hM hz1 hz2
      refine hK6 _ _ ?_
      have hff : ff.all timeB = true := by assumption
      have hargs := runArgs_of pr_lcr hff
      refine wp_seq_k fun K7 hK7 => ?_
      by_cases hz3 : runE srt spr lcr ff = 0
      · skip
        refine wp_region_lit ?_
        refine wl (eL 58 7 0 (v := .agg #[.int .i64 srt, .int .i64 spr]) hF hM (by kernel_rfl) rfl rfl (by kernel_rfl) (by kernel_rfl) fun a w hF hM => ?_)
        refine sB 2 [(59, .slice AA3 lcr.length cc3), (60, .slice G1 ff.length c1)] hF (by kernel_rfl) fun a hF => ?_
        obtain ⟨rst, rea, reb, hrun⟩ := runE_ok hz3
        refine wl (sOwn 9 (f := 12) (args := #[.agg #[.int .i64 srt, .int .i64 spr], .slice AA3 lcr.length cc3, .slice G1 ff.length c1]) (mk := fun v => .tuple #[v, .agg #[.int .i64 rea, .int .i64 reb], .int .i64 0]) (e := 3) (size := 1) (m := rst.length) (xs := (rst.map (Value.int .i64))) hF hM (by kernel_rfl) rfl (by decide) (by kernel_rfl) (fun _ => by kernel_rfl) (crRun_ok hrun (crRun_w srt spr AA3 lcr cc3 G1 ff c1 w (ro_of_own (hM.ok 6 _ rfl)) (ro_of_own (hM.ok 8 _ rfl)) (by omega) (by omega))) fun AA5 cc5 a w hF hM => ?_)
        refine sB 4 [(57, .tuple #[.slice AA5 rst.length cc5, .agg #[.int .i64 rea, .int .i64 reb], .int .i64 0]), (62, .slice AA5 rst.length cc5), (63, .agg #[.int .i64 rea, .int .i64 reb]), (64, .int .i64 0)] hF (by kernel_rfl) fun a hF => ?_
        refine wl (eN 14 10 (t := 40) (fun b => .pointer (some ⟨b, 0, none⟩)) #[.int .i64 0, .int .i64 0] hF hM (by kernel_rfl) (fun _ => by kernel_rfl) fun bb6 a w hF hM => ?_)
        refine sB 1 [(13, .slice AA5 rst.length cc5)] hF (by kernel_rfl) fun a hF => ?_
        refine wl (sStore (i := 10) (off := 0) (cs' := #[.int .i64 rea, .int .i64 reb]) hF hM (by kernel_rfl) rfl rfl (by kernel_rfl) (by kernel_rfl) rfl (by kernel_rfl) fun w hM => ?_)
        refine sB 1 [(15, .int .i64 0)] hF (by kernel_rfl) fun a hF => ?_
        refine wpList_nil ?_
        refine hK7 _ _ ?_
        refine wp_seq_k fun K8 hK8 => ?_
        refine wp_seq_k fun K9 hK9 => ?_
        refine wp_region_lit ?_
        refine sB 1 [(65, .int .i64 0)] hF (by kernel_rfl) fun a hF => ?_
        refine wl (eP 66 (v0 := .bool (!decide (0 = 0))) (v := .bool false) hF (by kernel_rfl) (fun _ => by kernel_rfl) (nT (by omega)) fun a hF => ?_)
        refine wpList_nil ?_
        refine hK9 _ _ ?_
        refine cF hF (by kernel_rfl) (by kernel_rfl) ?_
        refine wp_skip ?_
        refine hK8 _ _ ?_
        refine wp_seq_k fun K10 hK10 => ?_
        have hfrom := runE_from hslo tr_lcr (by omega) hargs hrun
        have hrl : rst.length = lcr.length := runFrom_length _ _ _ _ _ _ _ hfrom
        refine wp_region_lit ?_
        refine sB 1 [(79, .agg #[.int .i64 0, .int .i64 0])] hF (by kernel_rfl) fun a hF => ?_
        refine wl (eN 16 11 (t := 40) (fun b => .pointer (some ⟨b, 0, none⟩)) #[.int .i64 0, .int .i64 0] hF hM (by kernel_rfl) (fun _ => by kernel_rfl) fun bb7 a w hF hM => ?_)
        refine wl (sStore (i := 11) (off := 0) (cs' := #[.int .i64 0, .int .i64 0]) hF hM (by kernel_rfl) rfl rfl (by kernel_rfl) (by kernel_rfl) rfl (by kernel_rfl) fun w hM => ?_)
        refine wpList_nil ?_
        refine hK10 _ _ ?_
        refine wp_seq_k fun K11 hK11 => ?_
        refine wp_seq_k fun K12 hK12 => ?_
        refine wp_region_lit ?_
        refine sB 1 [(17, .int .i64 0)] hF (by kernel_rfl) fun a hF => ?_
        refine wpList_nil ?_
        refine hK12 _ _ ?_
        refine wp_block ?_
        refine wp_loop_k (G := Nat × Int × Int) (fun gg a w => Fr 217 [(17, some (.int .i64 (gg.1 : Int))), (3, some (.int .u16 lt)), (9, some (.pointer (some ⟨bb4, 0, none⟩))), (10, some (.slice AA3 lcr.length cc3)), (11, some (.slice G1 ff.length c1)), (13, some (.slice AA5 rst.length cc5)), (14, some (.pointer (some ⟨bb6, 0, none⟩))), (16, some (.pointer (some ⟨bb7, 0, none⟩)))] a ∧ Mem w0.heap.size w0 [(1, some (.ro Ga (gaps.map (Value.int .u16)))), (2, some (.ro Sa (sizes.map (Value.int .u16)))), (3, some (.ro Fa (free.map (Value.int .u16)))), (6, some (.own (.slice AA3 lcr.length cc3) 57 2 lcr.length (flat2 lcr))), (7, some (.row bb4 23 #[.int .i64 srt, .int .i64 spr])), (8, some (.own (.slice G1 ff.length c1) 3 1 ff.length (ff.map (Value.int .i64)))), (9, some (.own (.slice AA5 rst.length cc5) 3 1 rst.length (rst.map (Value.int .i64)))), (10, some (.row bb6 40 #[.int .i64 rea, .int .i64 reb])), (11, some (.row bb7 40 #[.int .i64 gg.2.1, .int .i64 gg.2.2]))] w ∧ ((gg.1 : Int) ≤ (lcr.length : Int)) ∧ (RunAt srt spr lcr ff gg.1 (rst.take gg.1) gg.2.1 gg.2.2) ∧ (PrevOk spr lcr rst gg.1 gg.2.1)) (fun gg => lcr.length - gg.1) (0, 0, 0) ?_ ?_
        · refine ⟨(((((((((Fr.nil hF).c hF (i := 16) rfl rfl).c hF (i := 14) rfl rfl).c hF (i := 13) rfl rfl).c hF (i := 11) rfl rfl).c hF (i := 10) rfl rfl).c hF (i := 9) rfl rfl).c hF (i := 3) rfl rfl).c hF (i := 17) rfl (vi (show (0 : Int) = (0 : Int) from by omega))), (hM.sub (((((((((Sub.nil.c (k := 11) rfl rfl).c (k := 10) rfl rfl).c (k := 9) rfl rfl).c (k := 8) rfl rfl).c (k := 7) rfl rfl).c (k := 6) rfl rfl).c (k := 3) rfl rfl).c (k := 2) rfl rfl).c (k := 1) rfl rfl)), (show (0 : Int) ≤ (lcr.length : Int) from by omega), (show RunAt srt spr lcr ff 0 (rst.take 0) 0 0 from by exact runAt_zero srt spr lcr ff), (show PrevOk spr lcr rst 0 0 from by exact prevOk_zero _ _ _ _)⟩
        · intro gg a w hI
          intro K13 hK13
          obtain ⟨i, aa, bl⟩ := gg
          try dsimp only at hI hK13
          obtain ⟨hF, hM, hz4, hz5, hz6⟩ := hI
          have hRA : RunAt srt spr lcr ff i (rst.take i) aa bl := by assumption
          have hprv : PrevOk spr lcr rst i aa := by assumption
          have hstB := stateB_iff.1 hRA.2.1
          refine wp_seq_k fun K14 hK14 => ?_
          refine wp_seq_k fun K15 hK15 => ?_
          refine wp_region_lit ?_
          refine sB 4 [(80, .int .i64 (i : Int)), (81, .slice AA3 lcr.length cc3), (82, .int .i64 (lcr.length : Int)), (83, .bool (decide ((i : Int) < (lcr.length : Int))))] hF (by kernel_rfl) fun a hF => ?_
          refine wpList_nil ?_
          refine hK15 _ _ ?_
          by_cases hz7 : (i : Int) < (lcr.length : Int)
          · skip
            replace hF := hF.c hF (i := 83) (v := .bool true) rfl (bT hz7)
            refine cT hF (by kernel_rfl) (by kernel_rfl) ?_
            refine wp_skip ?_
            refine hK14 _ _ ?_
            refine wp_seq_k fun K16 hK16 => ?_
            refine wp_block ?_
            refine wp_seq_k fun K17 hK17 => ?_
            refine wp_region_lit ?_
            refine sB 1 [(18, .int .i64 0)] hF (by kernel_rfl) fun a hF => ?_
            refine wpList_nil ?_
            refine hK17 _ _ ?_
            refine wp_seq_k fun K18 hK18 => ?_
            refine wp_seq_k fun K19 hK19 => ?_
            have hprk := pr_lcr i (by omega)
            refine wp_region_lit ?_
            refine sB 4 [(86, .int .i64 (i : Int)), (87, .slice G1 ff.length c1), (88, .int .i64 (ff.length : Int)), (89, .bool (decide ((i : Int) < (ff.length : Int))))] hF (by kernel_rfl) fun a hF => ?_
            refine wpList_nil ?_
            refine hK19 _ _ ?_
            by_cases hz8 : (i : Int) < (ff.length : Int)
            · skip
              replace hF := hF.c hF (i := 89) (v := .bool true) rfl (bT hz8)
              refine cT hF (by kernel_rfl) (by kernel_rfl) ?_
              refine wp_region_lit ?_
              refine sB 2 [(90, .slice G1 ff.length c1), (91, .int .i64 (i : Int))] hF (by kernel_rfl) fun a hF => ?_
              refine wl (eM 92 (v := .pointer (some (ea G1 (i)))) hF hM (by kernel_rfl) (yld_ix (kd := .i64) (e := 3) (len := ff.length) (cap := c1) (i := (i : Int)) (size := 1) (A := G1) hF rfl (by kernel_rfl) (by kernel_rfl) (by kernel_rfl) (by kernel_rfl) (by kernel_rfl) (roO 8 rfl) (by omega) (by omega) (by rw [List.length_map]; omega)) fun a w hF hM => ?_)
              refine wl (eM 93 (v := .int .i64 (nt ff i)) hF hM (by kernel_rfl) (yld_ro1 (A := G1) (j := i) hF rfl (by kernel_rfl) (by kernel_rfl) (roO 8 rfl) (by kernel_rfl) (nt_at (by omega))) fun a w hF hM => ?_)
              refine sB 1 [(18, .int .i64 (nt ff i))] hF (by kernel_rfl) fun a hF => ?_
              refine wpList_nil ?_
              refine hK18 _ _ ?_
              refine wp_seq_k fun K20 hK20 => ?_
              have htim : timeB (pr lcr i).1 = true := timeB_iff.2 (by omega)
              have hfn := all_time hff (k := i) (by omega)
              have hfre : timeB (nt ff i) = true := timeB_iff.2 (by omega)
              have hfa : freeAt ff i = nt ff i := freeAt_in (nt_some (by omega))
              obtain ⟨sst, e_sst⟩ : ∃ x : Int, x = cstS srt spr aa bl (pr lcr i).1 (nt ff i) (pr lcr i).2 := ⟨_, rfl⟩
              obtain ⟨sat, e_sat⟩ : ∃ x : Int, x = cstA srt spr aa bl (pr lcr i).1 (nt ff i) (pr lcr i).2 := ⟨_, rfl⟩
              obtain ⟨slv, e_slv⟩ : ∃ x : Int, x = cstL srt spr aa bl (pr lcr i).1 (nt ff i) (pr lcr i).2 := ⟨_, rfl⟩
              obtain ⟨see, e_see⟩ : ∃ x : Int, x = cstE srt spr aa bl (pr lcr i).1 (nt ff i) (pr lcr i).2 := ⟨_, rfl⟩
              refine rF (by kernel_rfl) (by kernel_rfl) (fun S a w => ∃ bb8 : Nat, Fr 217 [(3, some (.int .u16 lt)), (9, some (.pointer (some ⟨bb4, 0, none⟩))), (10, some (.slice AA3 lcr.length cc3)), (11, some (.slice G1 ff.length c1)), (13, some (.slice AA5 rst.length cc5)), (14, some (.pointer (some ⟨bb6, 0, none⟩))), (16, some (.pointer (some ⟨bb7, 0, none⟩))), (17, some (.int .i64 (i : Int))), (18, some (.int .i64 (nt ff i))), (19, (cond (S.getD 19 false) (some (.int .i64 sst)) none)), (20, (cond (S.getD 18 false) (some (.pointer (some ⟨bb8, 0, none⟩))) none)), (21, (cond (S.getD 21 false) (some (.int .i64 see)) none)), (80, some (.int .i64 (i : Int))), (81, some (.slice AA3 lcr.length cc3)), (82, some (.int .i64 (lcr.length : Int))), (83, some (.bool true)), (86, some (.int .i64 (i : Int))), (87, some (.slice G1 ff.length c1)), (88, some (.int .i64 (ff.length : Int))), (89, some (.bool true)), (90, some (.slice G1 ff.length c1)), (91, some (.int .i64 (i : Int))), (92, some (.pointer (some (ea G1 (i))))), (93, some (.int .i64 (nt ff i))), (94, (cond (S.getD 14 false) (some (.tuple #[.int .i64 sst, .agg #[.int .i64 sat, .int .i64 slv], .int .i64 see])) none)), (95, (cond (S.getD 0 false) (some (.agg #[.int .i64 srt, .int .i64 spr])) none)), (96, (cond (S.getD 1 false) (some (.agg #[.int .i64 aa, .int .i64 bl])) none)), (97, (cond (S.getD 2 false) (some (.slice AA3 lcr.length cc3)) none)), (98, (cond (S.getD 3 false) (some (.int .i64 (i : Int))) none)), (99, (cond (S.getD 4 false) (some (.pointer (some (ea AA3 (i * 2))))) none)), (100, (cond (S.getD 5 false) (some (.pointer (some (ea AA3 (i * 2))))) none)), (101, (cond (S.getD 6 false) (some (.int .i64 (pr lcr i).1)) none)), (102, (cond (S.getD 7 false) (some (.int .i64 (nt ff i))) none)), (103, (cond (S.getD 8 false) (some (.slice AA3 lcr.length cc3)) none)), (104, (cond (S.getD 9 false) (some (.int .i64 (i : Int))) none)), (105, (cond (S.getD 10 false) (some (.pointer (some (ea AA3 (i * 2))))) none)), (106, (cond (S.getD 11 false) (some (.pointer (some (ea AA3 (i * 2 + 1))))) none)), (107, (cond (S.getD 12 false) (some (.int .i64 (pr lcr i).2)) none)), (108, (cond (S.getD 13 false) (some (.tuple #[.int .i64 sst, .agg #[.int .i64 sat, .int .i64 slv], .int .i64 see])) none)), (109, (cond (S.getD 15 false) (some (.int .i64 sst)) none)), (110, (cond (S.getD 16 false) (some (.agg #[.int .i64 sat, .int .i64 slv])) none)), (111, (cond (S.getD 17 false) (some (.int .i64 see)) none))] a ∧ Mem w0.heap.size w0 [(1, some (.ro Ga (gaps.map (Value.int .u16)))), (2, some (.ro Sa (sizes.map (Value.int .u16)))), (3, some (.ro Fa (free.map (Value.int .u16)))), (6, some (.own (.slice AA3 lcr.length cc3) 57 2 lcr.length (flat2 lcr))), (7, some (.row bb4 23 #[.int .i64 srt, .int .i64 spr])), (8, some (.own (.slice G1 ff.length c1) 3 1 ff.length (ff.map (Value.int .i64)))), (9, some (.own (.slice AA5 rst.length cc5) 3 1 rst.length (rst.map (Value.int .i64)))), (10, some (.row bb6 40 #[.int .i64 rea, .int .i64 reb])), (11, some (.row bb7 40 #[.int .i64 aa, .int .i64 bl])), (12, (cond (S.getD 20 false) (some (.row bb8 40 #[.int .i64 sat, .int .i64 slv])) (cond (S.getD 18 false) (some (.row bb8 40 #[.int .i64 0, .int .i64 0])) none)))] w) ?_ ?_ ?_
              · exact ⟨0, (((((((((((((((((((((((((((((((((((((((((((Fr.nil hF).co hF (i := 111) (by kernel_rfl)).co hF (i := 110) (by kernel_rfl)).co hF (i := 109) (by kernel_rfl)).co hF (i := 108) (by kernel_rfl)).co hF (i := 107) (by kernel_rfl)).co hF (i := 106) (by kernel_rfl)).co hF (i := 105) (by kernel_rfl)).co hF (i := 104) (by kernel_rfl)).co hF (i := 103) (by kernel_rfl)).co hF (i := 102) (by kernel_rfl)).co hF (i := 101) (by kernel_rfl)).co hF (i := 100) (by kernel_rfl)).co hF (i := 99) (by kernel_rfl)).co hF (i := 98) (by kernel_rfl)).co hF (i := 97) (by kernel_rfl)).co hF (i := 96) (by kernel_rfl)).co hF (i := 95) (by kernel_rfl)).co hF (i := 94) (by kernel_rfl)).co hF (i := 93) (by kernel_rfl)).co hF (i := 92) (by kernel_rfl)).co hF (i := 91) (by kernel_rfl)).co hF (i := 90) (by kernel_rfl)).co hF (i := 89) (by kernel_rfl)).co hF (i := 88) (by kernel_rfl)).co hF (i := 87) (by kernel_rfl)).co hF (i := 86) (by kernel_rfl)).co hF (i := 83) (by kernel_rfl)).co hF (i := 82) (by kernel_rfl)).co hF (i := 81) (by kernel_rfl)).co hF (i := 80) (by kernel_rfl)).co hF (i := 21) (by kernel_rfl)).co hF (i := 20) (by kernel_rfl)).co hF (i := 19) (by kernel_rfl)).co hF (i := 18) (by kernel_rfl)).co hF (i := 17) (by kernel_rfl)).co hF (i := 16) (by kernel_rfl)).co hF (i := 14) (by kernel_rfl)).co hF (i := 13) (by kernel_rfl)).co hF (i := 11) (by kernel_rfl)).co hF (i := 10) (by kernel_rfl)).co hF (i := 9) (by kernel_rfl)).co hF (i := 3) (by kernel_rfl)), hM.drew.sub ((((((((((Sub.nil.co (k := 12) (by kernel_rfl)).co (k := 11) (by kernel_rfl)).co (k := 10) (by kernel_rfl)).co (k := 9) (by kernel_rfl)).co (k := 8) (by kernel_rfl)).co (k := 7) (by kernel_rfl)).co (k := 6) (by kernel_rfl)).co (k := 3) (by kernel_rfl)).co (k := 2) (by kernel_rfl)).co (k := 1) (by kernel_rfl))⟩
              · refine stC ?_ (stC ?_ (stC ?_ (stC ?_ (stC ?_ (stC ?_ (stC ?_ (stC ?_ (stC ?_ (stC ?_ (stC ?_ (stC ?_ (stC ?_ (stC ?_ (stC ?_ (stC ?_ (stC ?_ (stC ?_ (stC ?_ (stC ?_ (stC ?_ (stC ?_ (trivial))))))))))))))))))))))
                · intro s0 s1 s2 s3 s4 s5 s6 s7 s8 s9 s10 s11 s12 s13 s14 s15 s16 s17 s18 s19 s20 s21 hc hi hp a w hS
                  obtain rfl : s0 = false := hi
                  obtain ⟨bb8, hF, hM⟩ := hS
                  refine eL 95 7 0 (v := .agg #[.int .i64 srt, .int .i64 spr]) hF hM (by kernel_rfl) rfl rfl (by kernel_rfl) (by kernel_rfl) fun a w hF hM => ?_
                  exact ⟨bb8, ((hF.repl 25 (by kernel_rfl)).cast (by kernel_rfl)), (hM.cast (by kernel_rfl))⟩
                · intro s0 s1 s2 s3 s4 s5 s6 s7 s8 s9 s10 s11 s12 s13 s14 s15 s16 s17 s18 s19 s20 s21 hc hi hp a w hS
                  obtain rfl : s1 = false := hi
                  obtain ⟨bb8, hF, hM⟩ := hS
                  refine eL 96 11 0 (v := .agg #[.int .i64 aa, .int .i64 bl]) hF hM (by kernel_rfl) rfl rfl (by kernel_rfl) (by kernel_rfl) fun a w hF hM => ?_
                  exact ⟨bb8, ((hF.repl 26 (by kernel_rfl)).cast (by kernel_rfl)), (hM.cast (by kernel_rfl))⟩
                · intro s0 s1 s2 s3 s4 s5 s6 s7 s8 s9 s10 s11 s12 s13 s14 s15 s16 s17 s18 s19 s20 s21 hc hi hp a w hS
                  obtain rfl : s2 = false := hi
                  obtain ⟨bb8, hF, hM⟩ := hS
                  refine eP 97 (v0 := .slice AA3 lcr.length cc3) (v := .slice AA3 lcr.length cc3) hF (by kernel_rfl) (fun _ => by kernel_rfl) rfl fun a hF => ?_
                  exact ⟨bb8, ((hF.repl 27 (by kernel_rfl)).cast (by kernel_rfl)), (hM.cast (by kernel_rfl))⟩
                · intro s0 s1 s2 s3 s4 s5 s6 s7 s8 s9 s10 s11 s12 s13 s14 s15 s16 s17 s18 s19 s20 s21 hc hi hp a w hS
                  obtain rfl : s3 = false := hi
                  obtain ⟨bb8, hF, hM⟩ := hS
                  refine eP 98 (v0 := .int .i64 (i : Int)) (v := .int .i64 (i : Int)) hF (by kernel_rfl) (fun _ => by kernel_rfl) rfl fun a hF => ?_
                  exact ⟨bb8, ((hF.repl 28 (by kernel_rfl)).cast (by kernel_rfl)), (hM.cast (by kernel_rfl))⟩
                · intro s0 s1 s2 s3 s4 s5 s6 s7 s8 s9 s10 s11 s12 s13 s14 s15 s16 s17 s18 s19 s20 s21 hc hi hp a w hS
                  obtain rfl : s4 = false := hi
                  obtain rfl : s3 = true := hp 3 (by kernel_rfl)
                  obtain rfl : s2 = true := hp 2 (by kernel_rfl)
                  obtain ⟨bb8, hF, hM⟩ := hS
                  refine eM 99 (v := .pointer (some (ea AA3 (i * 2)))) hF hM (by kernel_rfl) (yld_ix (kd := .i64) (e := 57) (len := lcr.length) (cap := cc3) (i := (i : Int)) (size := 2) (A := AA3) hF rfl (by kernel_rfl) (by kernel_rfl) (by kernel_rfl) (by kernel_rfl) (by kernel_rfl) (roO 6 rfl) (by omega) (by omega) (by rw [flat2_length]; omega)) fun a w hF hM => ?_
                  exact ⟨bb8, ((hF.repl 29 (by kernel_rfl)).cast (by kernel_rfl)), (hM.cast (by kernel_rfl))⟩
                · intro s0 s1 s2 s3 s4 s5 s6 s7 s8 s9 s10 s11 s12 s13 s14 s15 s16 s17 s18 s19 s20 s21 hc hi hp a w hS
                  obtain rfl : s5 = false := hi
                  obtain rfl : s4 = true := hp 4 (by kernel_rfl)
                  obtain ⟨bb8, hF, hM⟩ := hS
                  refine eP 100 (v0 := .pointer (some (ea AA3 (i * 2)))) (v := .pointer (some (ea AA3 (i * 2)))) hF (by kernel_rfl) (fun _ => by kernel_rfl) rfl fun a hF => ?_
                  exact ⟨bb8, ((hF.repl 30 (by kernel_rfl)).cast (by kernel_rfl)), (hM.cast (by kernel_rfl))⟩
                · intro s0 s1 s2 s3 s4 s5 s6 s7 s8 s9 s10 s11 s12 s13 s14 s15 s16 s17 s18 s19 s20 s21 hc hi hp a w hS
                  obtain rfl : s6 = false := hi
                  obtain rfl : s5 = true := hp 5 (by kernel_rfl)
                  obtain ⟨bb8, hF, hM⟩ := hS
                  refine eM 101 (v := .int .i64 (pr lcr i).1) hF hM (by kernel_rfl) (yld_ro1 (A := AA3) (j := i * 2) hF rfl (by kernel_rfl) (by kernel_rfl) (roO 6 rfl) (by kernel_rfl) (pr_fst (k := i) (by omega) (by omega))) fun a w hF hM => ?_
                  exact ⟨bb8, ((hF.repl 31 (by kernel_rfl)).cast (by kernel_rfl)), (hM.cast (by kernel_rfl))⟩
                · intro s0 s1 s2 s3 s4 s5 s6 s7 s8 s9 s10 s11 s12 s13 s14 s15 s16 s17 s18 s19 s20 s21 hc hi hp a w hS
                  obtain rfl : s7 = false := hi
                  obtain ⟨bb8, hF, hM⟩ := hS
                  refine eP 102 (v0 := .int .i64 (nt ff i)) (v := .int .i64 (nt ff i)) hF (by kernel_rfl) (fun _ => by kernel_rfl) rfl fun a hF => ?_
                  exact ⟨bb8, ((hF.repl 32 (by kernel_rfl)).cast (by kernel_rfl)), (hM.cast (by kernel_rfl))⟩
                · intro s0 s1 s2 s3 s4 s5 s6 s7 s8 s9 s10 s11 s12 s13 s14 s15 s16 s17 s18 s19 s20 s21 hc hi hp a w hS
                  obtain rfl : s8 = false := hi
                  obtain ⟨bb8, hF, hM⟩ := hS
                  refine eP 103 (v0 := .slice AA3 lcr.length cc3) (v := .slice AA3 lcr.length cc3) hF (by kernel_rfl) (fun _ => by kernel_rfl) rfl fun a hF => ?_
                  exact ⟨bb8, ((hF.repl 33 (by kernel_rfl)).cast (by kernel_rfl)), (hM.cast (by kernel_rfl))⟩
                · intro s0 s1 s2 s3 s4 s5 s6 s7 s8 s9 s10 s11 s12 s13 s14 s15 s16 s17 s18 s19 s20 s21 hc hi hp a w hS
                  obtain rfl : s9 = false := hi
                  obtain ⟨bb8, hF, hM⟩ := hS
                  refine eP 104 (v0 := .int .i64 (i : Int)) (v := .int .i64 (i : Int)) hF (by kernel_rfl) (fun _ => by kernel_rfl) rfl fun a hF => ?_
                  exact ⟨bb8, ((hF.repl 34 (by kernel_rfl)).cast (by kernel_rfl)), (hM.cast (by kernel_rfl))⟩
                · intro s0 s1 s2 s3 s4 s5 s6 s7 s8 s9 s10 s11 s12 s13 s14 s15 s16 s17 s18 s19 s20 s21 hc hi hp a w hS
                  obtain rfl : s10 = false := hi
                  obtain rfl : s9 = true := hp 9 (by kernel_rfl)
                  obtain rfl : s8 = true := hp 8 (by kernel_rfl)
                  obtain ⟨bb8, hF, hM⟩ := hS
                  refine eM 105 (v := .pointer (some (ea AA3 (i * 2)))) hF hM (by kernel_rfl) (yld_ix (kd := .i64) (e := 57) (len := lcr.length) (cap := cc3) (i := (i : Int)) (size := 2) (A := AA3) hF rfl (by kernel_rfl) (by kernel_rfl) (by kernel_rfl) (by kernel_rfl) (by kernel_rfl) (roO 6 rfl) (by omega) (by omega) (by rw [flat2_length]; omega)) fun a w hF hM => ?_
                  exact ⟨bb8, ((hF.repl 35 (by kernel_rfl)).cast (by kernel_rfl)), (hM.cast (by kernel_rfl))⟩
                · intro s0 s1 s2 s3 s4 s5 s6 s7 s8 s9 s10 s11 s12 s13 s14 s15 s16 s17 s18 s19 s20 s21 hc hi hp a w hS
                  obtain rfl : s11 = false := hi
                  obtain rfl : s10 = true := hp 10 (by kernel_rfl)
                  obtain ⟨bb8, hF, hM⟩ := hS
                  refine eP 106 (v0 := .pointer (some (ea AA3 (i * 2 + 1)))) (v := .pointer (some (ea AA3 (i * 2 + 1)))) hF (by kernel_rfl) (fun _ => by kernel_rfl) rfl fun a hF => ?_
                  exact ⟨bb8, ((hF.repl 36 (by kernel_rfl)).cast (by kernel_rfl)), (hM.cast (by kernel_rfl))⟩
                · intro s0 s1 s2 s3 s4 s5 s6 s7 s8 s9 s10 s11 s12 s13 s14 s15 s16 s17 s18 s19 s20 s21 hc hi hp a w hS
                  obtain rfl : s12 = false := hi
                  obtain rfl : s11 = true := hp 11 (by kernel_rfl)
                  obtain ⟨bb8, hF, hM⟩ := hS
                  refine eM 107 (v := .int .i64 (pr lcr i).2) hF hM (by kernel_rfl) (yld_ro1 (A := AA3) (j := i * 2 + 1) hF rfl (by kernel_rfl) (by kernel_rfl) (roO 6 rfl) (by kernel_rfl) (pr_snd (k := i) (by omega) (by omega))) fun a w hF hM => ?_
                  exact ⟨bb8, ((hF.repl 37 (by kernel_rfl)).cast (by kernel_rfl)), (hM.cast (by kernel_rfl))⟩
                · intro s0 s1 s2 s3 s4 s5 s6 s7 s8 s9 s10 s11 s12 s13 s14 s15 s16 s17 s18 s19 s20 s21 hc hi hp a w hS
                  obtain rfl : s13 = false := hi
                  obtain rfl : s12 = true := hp 12 (by kernel_rfl)
                  obtain rfl : s7 = true := hp 7 (by kernel_rfl)
                  obtain rfl : s6 = true := hp 6 (by kernel_rfl)
                  obtain rfl : s1 = true := hp 1 (by kernel_rfl)
                  obtain rfl : s0 = true := hp 0 (by kernel_rfl)
                  obtain ⟨bb8, hF, hM⟩ := hS
                  refine eM 108 (v := .tuple #[.int .i64 sst, .agg #[.int .i64 sat, .int .i64 slv], .int .i64 see]) hF hM (by kernel_rfl) (yld_call (f := 20) (args := #[.agg #[.int .i64 srt, .int .i64 spr], .agg #[.int .i64 aa, .int .i64 bl], .int .i64 (pr lcr i).1, .int .i64 (nt ff i), .int .i64 (pr lcr i).2]) hF (by kernel_rfl) (fun _ => by kernel_rfl) (fun w hM => by rw [e_sst, e_sat, e_slv, e_see]; exact crStep_w srt spr aa bl (pr lcr i).1 (nt ff i) (pr lcr i).2 w)) fun a w hF hM => ?_
                  exact ⟨bb8, ((hF.repl 38 (by kernel_rfl)).cast (by kernel_rfl)), (hM.cast (by kernel_rfl))⟩
                · intro s0 s1 s2 s3 s4 s5 s6 s7 s8 s9 s10 s11 s12 s13 s14 s15 s16 s17 s18 s19 s20 s21 hc hi hp a w hS
                  obtain rfl : s14 = false := hi
                  obtain rfl : s13 = true := hp 13 (by kernel_rfl)
                  obtain ⟨bb8, hF, hM⟩ := hS
                  refine eP 94 (v0 := .tuple #[.int .i64 sst, .agg #[.int .i64 sat, .int .i64 slv], .int .i64 see]) (v := .tuple #[.int .i64 sst, .agg #[.int .i64 sat, .int .i64 slv], .int .i64 see]) hF (by kernel_rfl) (fun _ => by kernel_rfl) rfl fun a hF => ?_
                  exact ⟨bb8, ((hF.repl 24 (by kernel_rfl)).cast (by kernel_rfl)), (hM.cast (by kernel_rfl))⟩
                · intro s0 s1 s2 s3 s4 s5 s6 s7 s8 s9 s10 s11 s12 s13 s14 s15 s16 s17 s18 s19 s20 s21 hc hi hp a w hS
                  obtain rfl : s15 = false := hi
                  obtain rfl : s14 = true := hp 14 (by kernel_rfl)
                  obtain ⟨bb8, hF, hM⟩ := hS
                  refine eP 109 (v0 := .int .i64 sst) (v := .int .i64 sst) hF (by kernel_rfl) (fun _ => by kernel_rfl) rfl fun a hF => ?_
                  exact ⟨bb8, ((hF.repl 39 (by kernel_rfl)).cast (by kernel_rfl)), (hM.cast (by kernel_rfl))⟩
                · intro s0 s1 s2 s3 s4 s5 s6 s7 s8 s9 s10 s11 s12 s13 s14 s15 s16 s17 s18 s19 s20 s21 hc hi hp a w hS
                  obtain rfl : s16 = false := hi
                  obtain rfl : s14 = true := hp 14 (by kernel_rfl)
                  obtain ⟨bb8, hF, hM⟩ := hS
                  refine eP 110 (v0 := .agg #[.int .i64 sat, .int .i64 slv]) (v := .agg #[.int .i64 sat, .int .i64 slv]) hF (by kernel_rfl) (fun _ => by kernel_rfl) rfl fun a hF => ?_
                  exact ⟨bb8, ((hF.repl 40 (by kernel_rfl)).cast (by kernel_rfl)), (hM.cast (by kernel_rfl))⟩
                · intro s0 s1 s2 s3 s4 s5 s6 s7 s8 s9 s10 s11 s12 s13 s14 s15 s16 s17 s18 s19 s20 s21 hc hi hp a w hS
                  obtain rfl : s17 = false := hi
                  obtain rfl : s14 = true := hp 14 (by kernel_rfl)
                  obtain ⟨bb8, hF, hM⟩ := hS
                  refine eP 111 (v0 := .int .i64 see) (v := .int .i64 see) hF (by kernel_rfl) (fun _ => by kernel_rfl) rfl fun a hF => ?_
                  exact ⟨bb8, ((hF.repl 41 (by kernel_rfl)).cast (by kernel_rfl)), (hM.cast (by kernel_rfl))⟩
                · intro s0 s1 s2 s3 s4 s5 s6 s7 s8 s9 s10 s11 s12 s13 s14 s15 s16 s17 s18 s19 s20 s21 hc hi hp a w hS
                  obtain rfl : s18 = false := hi
                  obtain rfl : s20 = false := hc.f 20 18 (by kernel_rfl) rfl
                  obtain ⟨bb8, hF, hM⟩ := hS
                  refine eN 20 12 (t := 40) (fun b => .pointer (some ⟨b, 0, none⟩)) #[.int .i64 0, .int .i64 0] hF hM (by kernel_rfl) (fun _ => by kernel_rfl) fun bb8 a w hF hM => ?_
                  exact ⟨bb8, ((hF.repl 10 (by kernel_rfl)).cast (by kernel_rfl)), ((hM.repl 9 (by kernel_rfl)).cast (by kernel_rfl))⟩
                · intro s0 s1 s2 s3 s4 s5 s6 s7 s8 s9 s10 s11 s12 s13 s14 s15 s16 s17 s18 s19 s20 s21 hc hi hp a w hS
                  obtain rfl : s19 = false := hi
                  obtain rfl : s15 = true := hp 15 (by kernel_rfl)
                  obtain ⟨bb8, hF, hM⟩ := hS
                  refine eP 19 (v0 := .int .i64 sst) (v := .int .i64 sst) hF (by kernel_rfl) (fun _ => by kernel_rfl) rfl fun a hF => ?_
                  exact ⟨bb8, ((hF.repl 9 (by kernel_rfl)).cast (by kernel_rfl)), (hM.cast (by kernel_rfl))⟩
                · intro s0 s1 s2 s3 s4 s5 s6 s7 s8 s9 s10 s11 s12 s13 s14 s15 s16 s17 s18 s19 s20 s21 hc hi hp a w hS
                  obtain rfl : s20 = false := hi
                  obtain rfl : s18 = true := hp 18 (by kernel_rfl)
                  obtain rfl : s16 = true := hp 16 (by kernel_rfl)
                  obtain ⟨bb8, hF, hM⟩ := hS
                  refine sStore (i := 12) (off := 0) (cs' := #[.int .i64 sat, .int .i64 slv]) hF hM (by kernel_rfl) rfl rfl (by kernel_rfl) (by kernel_rfl) rfl (by kernel_rfl) fun w hM => ?_
                  exact ⟨bb8, (hF.cast (by kernel_rfl)), ((hM.repl 9 (by kernel_rfl)).cast (by kernel_rfl))⟩
                · intro s0 s1 s2 s3 s4 s5 s6 s7 s8 s9 s10 s11 s12 s13 s14 s15 s16 s17 s18 s19 s20 s21 hc hi hp a w hS
                  obtain rfl : s21 = false := hi
                  obtain rfl : s17 = true := hp 17 (by kernel_rfl)
                  obtain ⟨bb8, hF, hM⟩ := hS
                  refine eP 21 (v0 := .int .i64 see) (v := .int .i64 see) hF (by kernel_rfl) (fun _ => by kernel_rfl) rfl fun a hF => ?_
                  exact ⟨bb8, ((hF.repl 11 (by kernel_rfl)).cast (by kernel_rfl)), (hM.cast (by kernel_rfl))⟩
              · intro a w hS
                obtain ⟨bb8, hF, hM⟩ := hS
                replace hF : Fr 217 [(3, some (.int .u16 lt)), (9, some (.pointer (some ⟨bb4, 0, none⟩))), (10, some (.slice AA3 lcr.length cc3)), (11, some (.slice G1 ff.length c1)), (13, some (.slice AA5 rst.length cc5)), (14, some (.pointer (some ⟨bb6, 0, none⟩))), (16, some (.pointer (some ⟨bb7, 0, none⟩))), (17, some (.int .i64 (i : Int))), (18, some (.int .i64 (nt ff i))), (19, some (.int .i64 sst)), (20, some (.pointer (some ⟨bb8, 0, none⟩))), (21, some (.int .i64 see)), (80, some (.int .i64 (i : Int))), (81, some (.slice AA3 lcr.length cc3)), (82, some (.int .i64 (lcr.length : Int))), (83, some (.bool true)), (86, some (.int .i64 (i : Int))), (87, some (.slice G1 ff.length c1)), (88, some (.int .i64 (ff.length : Int))), (89, some (.bool true)), (90, some (.slice G1 ff.length c1)), (91, some (.int .i64 (i : Int))), (92, some (.pointer (some (ea G1 (i))))), (93, some (.int .i64 (nt ff i))), (94, some (.tuple #[.int .i64 sst, .agg #[.int .i64 sat, .int .i64 slv], .int .i64 see])), (95, some (.agg #[.int .i64 srt, .int .i64 spr])), (96, some (.agg #[.int .i64 aa, .int .i64 bl])), (97, some (.slice AA3 lcr.length cc3)), (98, some (.int .i64 (i : Int))), (99, some (.pointer (some (ea AA3 (i * 2))))), (100, some (.pointer (some (ea AA3 (i * 2))))), (101, some (.int .i64 (pr lcr i).1)), (102, some (.int .i64 (nt ff i))), (103, some (.slice AA3 lcr.length cc3)), (104, some (.int .i64 (i : Int))), (105, some (.pointer (some (ea AA3 (i * 2))))), (106, some (.pointer (some (ea AA3 (i * 2 + 1))))), (107, some (.int .i64 (pr lcr i).2)), (108, some (.tuple #[.int .i64 sst, .agg #[.int .i64 sat, .int .i64 slv], .int .i64 see])), (109, some (.int .i64 sst)), (110, some (.agg #[.int .i64 sat, .int .i64 slv])), (111, some (.int .i64 see))] a := hF.cast (by kernel_rfl)
                replace hM : Mem w0.heap.size w0 [(1, some (.ro Ga (gaps.map (Value.int .u16)))), (2, some (.ro Sa (sizes.map (Value.int .u16)))), (3, some (.ro Fa (free.map (Value.int .u16)))), (6, some (.own (.slice AA3 lcr.length cc3) 57 2 lcr.length (flat2 lcr))), (7, some (.row bb4 23 #[.int .i64 srt, .int .i64 spr])), (8, some (.own (.slice G1 ff.length c1) 3 1 ff.length (ff.map (Value.int .i64)))), (9, some (.own (.slice AA5 rst.length cc5) 3 1 rst.length (rst.map (Value.int .i64)))), (10, some (.row bb6 40 #[.int .i64 rea, .int .i64 reb])), (11, some (.row bb7 40 #[.int .i64 aa, .int .i64 bl])), (12, some (.row bb8 40 #[.int .i64 sat, .int .i64 slv]))] w := hM.cast (by kernel_rfl)
                refine hK20 _ _ ?_
                refine wp_seq_k fun K21 hK21 => ?_
                refine wp_seq_k fun K22 hK22 => ?_
                have hhere := runAt_here (t := (pr lcr i).1) (s := (pr lcr i).2) hRA hfrom (pr_some (by omega))
                rw [hfa] at hhere
                have hse : see = 0 := by rw [e_see]; exact cst_zero hslo hRA.2.1 htim hfre hprk.2.2.1 hprk.2.2.2 hhere.1
                have hcs := cst_ok (e_see.symm.trans hse)
                rw [← e_sst, ← e_sat, ← e_slv] at hcs
                have hsf := step_facts (free := nt ff i) (slopeB_of hslo) hRA.2.1 htim hfre hprk.2.2.1 hprk.2.2.2
                rw [← hcs.1, ← hcs.2.1, ← hcs.2.2] at hhere hsf
                have hstb := stateB_iff.1 hhere.1
                have hSE : stateE sat slv = 0 := stateE_yes hhere.1
                by_cases hz9 : 0 < (i : Int)
                · skip
                  have hz10 := prevOk_at hprv pr_lcr (by omega) hz9
                  refine rQ hM (by kernel_rfl) (by kernel_rfl) ?_
                  refine eQ 112 (v0 := .int .i64 see) (v := .int .i64 see) hF (by kernel_rfl) (fun _ => by kernel_rfl) rfl fun a hF => ?_
                  refine eQ 113 (v0 := .bool (!decide (see = 0))) (v := .bool false) hF (by kernel_rfl) (fun _ => by kernel_rfl) (nT (by omega)) fun a hF => ?_
                  refine eQ 114 (v0 := .bool false) (v := .bool false) hF (by kernel_rfl) (fun _ => by kernel_rfl) rfl fun a hF => ?_
                  refine eQ 115 (v0 := .int .i64 sst) (v := .int .i64 sst) hF (by kernel_rfl) (fun _ => by kernel_rfl) rfl fun a hF => ?_
                  refine eQ 116 (v0 := .slice AA5 rst.length cc5) (v := .slice AA5 rst.length cc5) hF (by kernel_rfl) (fun _ => by kernel_rfl) rfl fun a hF => ?_
                  refine eQ 117 (v0 := .int .i64 (i : Int)) (v := .int .i64 (i : Int)) hF (by kernel_rfl) (fun _ => by kernel_rfl) rfl fun a hF => ?_
                  refine eQ2 118 (v := .pointer (some (ea AA5 (i)))) hF (by kernel_rfl) (yld_ix (kd := .i64) (e := 3) (len := rst.length) (cap := cc5) (i := (i : Int)) (size := 1) (A := AA5) hF rfl (by kernel_rfl) (by kernel_rfl) (by kernel_rfl) (by kernel_rfl) (by kernel_rfl) (roO 9 rfl) (by omega) (by omega) (by rw [List.length_map]; omega)) fun a hF => ?_
                  refine eQ2 119 (v := .int .i64 (nt rst i)) hF (by kernel_rfl) (yld_ro1 (A := AA5) (j := i) hF rfl (by kernel_rfl) (by kernel_rfl) (roO 9 rfl) (by kernel_rfl) (nt_at (by omega))) fun a hF => ?_
                  refine eQ 120 (v0 := .bool (!decide (sst = nt rst i))) (v := .bool false) hF (by kernel_rfl) (fun _ => by kernel_rfl) (nT (by omega)) fun a hF => ?_
                  refine eQ 121 (v0 := .bool false) (v := .bool false) hF (by kernel_rfl) (fun _ => by kernel_rfl) rfl fun a hF => ?_
                  refine eQ 122 (v0 := .bool false) (v := .bool false) hF (by kernel_rfl) (fun _ => by kernel_rfl) rfl fun a hF => ?_
                  refine eQ 123 (v0 := .int .i64 (i : Int)) (v := .int .i64 (i : Int)) hF (by kernel_rfl) (fun _ => by kernel_rfl) rfl fun a hF => ?_
                  refine eQ 124 (v0 := .bool (decide (0 < (i : Int)))) (v := .bool true) hF (by kernel_rfl) (fun _ => by kernel_rfl) (bT hz9) fun a hF => ?_
                  refine eQ 125 (v0 := .bool true) (v := .bool true) hF (by kernel_rfl) (fun _ => by kernel_rfl) rfl fun a hF => ?_
                  refine eQ 126 (v0 := .int .i64 sst) (v := .int .i64 sst) hF (by kernel_rfl) (fun _ => by kernel_rfl) rfl fun a hF => ?_
                  refine eQ 127 (v0 := .slice AA5 rst.length cc5) (v := .slice AA5 rst.length cc5) hF (by kernel_rfl) (fun _ => by kernel_rfl) rfl fun a hF => ?_
                  refine eQ 128 (v0 := .int .i64 (i : Int)) (v := .int .i64 (i : Int)) hF (by kernel_rfl) (fun _ => by kernel_rfl) rfl fun a hF => ?_
                  refine eQ 129 (v0 := .int .i64 (IntKind.i64.wrap ((i : Int) - 1))) (v := .int .i64 ((i : Int) - 1)) hF (by kernel_rfl) (fun _ => by kernel_rfl) (wi (by omega)) fun a hF => ?_
                  refine eQ2 130 (v := .pointer (some (ea AA5 (i - 1)))) hF (by kernel_rfl) (yld_ix (kd := .i64) (e := 3) (len := rst.length) (cap := cc5) (i := (i : Int) - 1) (size := 1) (A := AA5) hF rfl (by kernel_rfl) (by kernel_rfl) (by kernel_rfl) (by kernel_rfl) (by kernel_rfl) (roO 9 rfl) (by omega) (by omega) (by rw [List.length_map]; omega)) fun a hF => ?_
                  refine eQ2 131 (v := .int .i64 (nt rst (i - 1))) hF (by kernel_rfl) (yld_ro1 (A := AA5) (j := i - 1) hF rfl (by kernel_rfl) (by kernel_rfl) (roO 9 rfl) (by kernel_rfl) (nt_at (by omega))) fun a hF => ?_
                  refine eQ 132 (v0 := .slice AA3 lcr.length cc3) (v := .slice AA3 lcr.length cc3) hF (by kernel_rfl) (fun _ => by kernel_rfl) rfl fun a hF => ?_
                  refine eQ 133 (v0 := .int .i64 (i : Int)) (v := .int .i64 (i : Int)) hF (by kernel_rfl) (fun _ => by kernel_rfl) rfl fun a hF => ?_
                  refine eQ 134 (v0 := .int .i64 (IntKind.i64.wrap ((i : Int) - 1))) (v := .int .i64 ((i : Int) - 1)) hF (by kernel_rfl) (fun _ => by kernel_rfl) (wi (by omega)) fun a hF => ?_
                  refine eQ2 135 (v := .pointer (some (ea AA3 ((i - 1) * 2)))) hF (by kernel_rfl) (yld_ix (kd := .i64) (e := 57) (len := lcr.length) (cap := cc3) (i := (i : Int) - 1) (size := 2) (A := AA3) hF rfl (by kernel_rfl) (by kernel_rfl) (by kernel_rfl) (by kernel_rfl) (by kernel_rfl) (roO 6 rfl) (by omega) (by omega) (by rw [flat2_length]; omega)) fun a hF => ?_
                  refine eQ 136 (v0 := .pointer (some (ea AA3 ((i - 1) * 2 + 1)))) (v := .pointer (some (ea AA3 ((i - 1) * 2 + 1)))) hF (by kernel_rfl) (fun _ => by kernel_rfl) rfl fun a hF => ?_
                  refine eQ2 137 (v := .int .i64 (pr lcr (i - 1)).2) hF (by kernel_rfl) (yld_ro1 (A := AA3) (j := (i - 1) * 2 + 1) hF rfl (by kernel_rfl) (by kernel_rfl) (roO 6 rfl) (by kernel_rfl) (pr_snd (k := i - 1) (by omega) (by omega))) fun a hF => ?_
                  refine eQ 138 (v0 := .pointer (some ⟨bb4, 1, none⟩)) (v := .pointer (some ⟨bb4, 1, none⟩)) hF (by kernel_rfl) (fun _ => by kernel_rfl) rfl fun a hF => ?_
                  refine eQL 139 7 1 (v := .int .i64 spr) hF (by kernel_rfl) rfl rfl (by kernel_rfl) (by kernel_rfl) fun a hF => ?_
                  have hz11 : 1 ≤ (pr lcr (i - 1)).2 * spr ∧ (pr lcr (i - 1)).2 * spr ≤ 1542000 := mul_bd (1) (1542) (1) (1000) (by omega) (by omega) (by omega) (by omega) (by decide)
                  refine eQ 140 (v0 := .int .i64 (IntKind.i64.wrap ((pr lcr (i - 1)).2 * spr))) (v := .int .i64 ((pr lcr (i - 1)).2 * spr)) hF (by kernel_rfl) (fun _ => by kernel_rfl) (wi (by omega)) fun a hF => ?_
                  refine eQ 141 (v0 := .int .i64 (IntKind.i64.wrap (nt rst (i - 1) + (pr lcr (i - 1)).2 * spr))) (v := .int .i64 (nt rst (i - 1) + (pr lcr (i - 1)).2 * spr)) hF (by kernel_rfl) (fun _ => by kernel_rfl) (wi (by omega)) fun a hF => ?_
                  refine eQ 142 (v0 := .bool (decide (sst < nt rst (i - 1) + (pr lcr (i - 1)).2 * spr))) (v := .bool false) hF (by kernel_rfl) (fun _ => by kernel_rfl) (bF (by omega)) fun a hF => ?_
                  refine eQ 143 (v0 := .bool false) (v := .bool false) hF (by kernel_rfl) (fun _ => by kernel_rfl) rfl fun a hF => ?_
                  refine eQ 144 (v0 := .bool false) (v := .bool false) hF (by kernel_rfl) (fun _ => by kernel_rfl) rfl fun a hF => ?_
                  refine eQ 145 (v0 := .bool false) (v := .bool false) hF (by kernel_rfl) (fun _ => by kernel_rfl) rfl fun a hF => ?_
                  refine eQL 146 12 0 (v := .agg #[.int .i64 sat, .int .i64 slv]) hF (by kernel_rfl) rfl rfl (by kernel_rfl) (by kernel_rfl) fun a hF => ?_
                  refine eQ2 147 (v := .int .i64 (stateE sat slv)) hF (by kernel_rfl) (yld_call (f := 18) (args := #[.agg #[.int .i64 sat, .int .i64 slv]]) hF (by kernel_rfl) (fun _ => by kernel_rfl) (fun w hM => crState_w sat slv w)) fun a hF => ?_
                  refine eQ 148 (v0 := .bool (!decide (stateE sat slv = 0))) (v := .bool false) hF (by kernel_rfl) (fun _ => by kernel_rfl) (nT hSE) fun a hF => ?_
                  refine eQ 149 (v0 := .bool false) (v := .bool false) hF (by kernel_rfl) (fun _ => by kernel_rfl) rfl fun a hF => ?_
                  refine wpQuiet_nil ?_
                  intro w hM
                  refine hK22 _ _ ?_
                  refine cF hF (by kernel_rfl) (by kernel_rfl) ?_
                  refine wp_skip ?_
                  refine hK21 _ _ ?_
                  refine wp_region_lit ?_
                  refine wl (eL 150 12 0 (v := .agg #[.int .i64 sat, .int .i64 slv]) hF hM (by kernel_rfl) rfl rfl (by kernel_rfl) (by kernel_rfl) fun a w hF hM => ?_)
                  refine wl (sStore (i := 11) (off := 0) (cs' := #[.int .i64 sat, .int .i64 slv]) hF hM (by kernel_rfl) rfl rfl (by kernel_rfl) (by kernel_rfl) rfl (by kernel_rfl) fun w hM => ?_)
                  refine wpList_nil ?_
                  refine hK16 _ _ ?_
                  refine wp_region_lit ?_
                  refine sB 1 [(84, .int .i64 (i : Int))] hF (by kernel_rfl) fun a hF => ?_
                  refine wl (eP 85 (v0 := .int .i64 (IntKind.i64.wrap ((i : Int) + 1))) (v := .int .i64 ((i : Int) + 1)) hF (by kernel_rfl) (fun _ => by kernel_rfl) (wi (by omega)) fun a hF => ?_)
                  refine sB 1 [(17, .int .i64 ((i : Int) + 1))] hF (by kernel_rfl) fun a hF => ?_
                  refine wpList_nil ?_
                  refine hK13 _ _ ⟨(i + 1, sat, slv), ⟨(((((((((Fr.nil hF).c hF (i := 16) rfl rfl).c hF (i := 14) rfl rfl).c hF (i := 13) rfl rfl).c hF (i := 11) rfl rfl).c hF (i := 10) rfl rfl).c hF (i := 9) rfl rfl).c hF (i := 3) rfl rfl).c hF (i := 17) rfl (vi (show ((i : Int) + 1 : Int) = ((i + 1) : Int) from by omega))), (hM.sub (((((((((Sub.nil.c (k := 11) rfl rfl).c (k := 10) rfl rfl).c (k := 9) rfl rfl).c (k := 8) rfl rfl).c (k := 7) rfl rfl).c (k := 6) rfl rfl).c (k := 3) rfl rfl).c (k := 2) rfl rfl).c (k := 1) rfl rfl)), (show ((i + 1) : Int) ≤ (lcr.length : Int) from by omega), (show RunAt srt spr lcr ff (i + 1) (rst.take (i + 1)) sat slv from by exact hhere.2.2), (show PrevOk spr lcr rst (i + 1) sat from by exact prevOk_next (by omega))⟩, (show lcr.length - (i + 1) < lcr.length - i from by omega)⟩
                · skip
                  refine rQ hM (by kernel_rfl) (by kernel_rfl) ?_
                  refine eQ 112 (v0 := .int .i64 see) (v := .int .i64 see) hF (by kernel_rfl) (fun _ => by kernel_rfl) rfl fun a hF => ?_
                  refine eQ 113 (v0 := .bool (!decide (see = 0))) (v := .bool false) hF (by kernel_rfl) (fun _ => by kernel_rfl) (nT (by omega)) fun a hF => ?_
                  refine eQ 114 (v0 := .bool false) (v := .bool false) hF (by kernel_rfl) (fun _ => by kernel_rfl) rfl fun a hF => ?_
                  refine eQ 115 (v0 := .int .i64 sst) (v := .int .i64 sst) hF (by kernel_rfl) (fun _ => by kernel_rfl) rfl fun a hF => ?_
                  refine eQ 116 (v0 := .slice AA5 rst.length cc5) (v := .slice AA5 rst.length cc5) hF (by kernel_rfl) (fun _ => by kernel_rfl) rfl fun a hF => ?_
                  refine eQ 117 (v0 := .int .i64 (i : Int)) (v := .int .i64 (i : Int)) hF (by kernel_rfl) (fun _ => by kernel_rfl) rfl fun a hF => ?_
                  refine eQ2 118 (v := .pointer (some (ea AA5 (i)))) hF (by kernel_rfl) (yld_ix (kd := .i64) (e := 3) (len := rst.length) (cap := cc5) (i := (i : Int)) (size := 1) (A := AA5) hF rfl (by kernel_rfl) (by kernel_rfl) (by kernel_rfl) (by kernel_rfl) (by kernel_rfl) (roO 9 rfl) (by omega) (by omega) (by rw [List.length_map]; omega)) fun a hF => ?_
                  refine eQ2 119 (v := .int .i64 (nt rst i)) hF (by kernel_rfl) (yld_ro1 (A := AA5) (j := i) hF rfl (by kernel_rfl) (by kernel_rfl) (roO 9 rfl) (by kernel_rfl) (nt_at (by omega))) fun a hF => ?_
                  refine eQ 120 (v0 := .bool (!decide (sst = nt rst i))) (v := .bool false) hF (by kernel_rfl) (fun _ => by kernel_rfl) (nT (by omega)) fun a hF => ?_
                  refine eQ 121 (v0 := .bool false) (v := .bool false) hF (by kernel_rfl) (fun _ => by kernel_rfl) rfl fun a hF => ?_
                  refine eQ 122 (v0 := .bool false) (v := .bool false) hF (by kernel_rfl) (fun _ => by kernel_rfl) rfl fun a hF => ?_
                  refine eQ 123 (v0 := .int .i64 (i : Int)) (v := .int .i64 (i : Int)) hF (by kernel_rfl) (fun _ => by kernel_rfl) rfl fun a hF => ?_
                  refine eQ 124 (v0 := .bool (decide (0 < (i : Int)))) (v := .bool false) hF (by kernel_rfl) (fun _ => by kernel_rfl) (bF hz9) fun a hF => ?_
                  refine eQ 125 (v0 := .bool false) (v := .bool false) hF (by kernel_rfl) (fun _ => by kernel_rfl) rfl fun a hF => ?_
                  refine qSkip hF (by kernel_rfl) rfl (by decide) fun a hF => ?_
                  refine qSkip hF (by kernel_rfl) rfl (by decide) fun a hF => ?_
                  refine qSkip hF (by kernel_rfl) rfl (by decide) fun a hF => ?_
                  refine qSkip hF (by kernel_rfl) rfl (by decide) fun a hF => ?_
                  refine qSkip hF (by kernel_rfl) rfl (by decide) fun a hF => ?_
                  refine qSkip hF (by kernel_rfl) rfl (by decide) fun a hF => ?_
                  refine qSkip hF (by kernel_rfl) rfl (by decide) fun a hF => ?_
                  refine qSkip hF (by kernel_rfl) rfl (by decide) fun a hF => ?_
                  refine qSkip hF (by kernel_rfl) rfl (by decide) fun a hF => ?_
                  refine qSkip hF (by kernel_rfl) rfl (by decide) fun a hF => ?_
                  refine qSkip hF (by kernel_rfl) rfl (by decide) fun a hF => ?_
                  refine qSkip hF (by kernel_rfl) rfl (by decide) fun a hF => ?_
                  refine qSkip hF (by kernel_rfl) rfl (by decide) fun a hF => ?_
                  refine qSkip hF (by kernel_rfl) rfl (by decide) fun a hF => ?_
                  refine qSkip hF (by kernel_rfl) rfl (by decide) fun a hF => ?_
                  refine qSkip hF (by kernel_rfl) rfl (by decide) fun a hF => ?_
                  refine qSkip hF (by kernel_rfl) rfl (by decide) fun a hF => ?_
                  refine eQ 143 (v0 := .bool false) (v := .bool false) hF (by kernel_rfl) (fun _ => by kernel_rfl) rfl fun a hF => ?_
                  refine eQ 144 (v0 := .bool false) (v := .bool false) hF (by kernel_rfl) (fun _ => by kernel_rfl) rfl fun a hF => ?_
                  refine eQ 145 (v0 := .bool false) (v := .bool false) hF (by kernel_rfl) (fun _ => by kernel_rfl) rfl fun a hF => ?_
                  refine eQL 146 12 0 (v := .agg #[.int .i64 sat, .int .i64 slv]) hF (by kernel_rfl) rfl rfl (by kernel_rfl) (by kernel_rfl) fun a hF => ?_
                  refine eQ2 147 (v := .int .i64 (stateE sat slv)) hF (by kernel_rfl) (yld_call (f := 18) (args := #[.agg #[.int .i64 sat, .int .i64 slv]]) hF (by kernel_rfl) (fun _ => by kernel_rfl) (fun w hM => crState_w sat slv w)) fun a hF => ?_
                  refine eQ 148 (v0 := .bool (!decide (stateE sat slv = 0))) (v := .bool false) hF (by kernel_rfl) (fun _ => by kernel_rfl) (nT hSE) fun a hF => ?_
                  refine eQ 149 (v0 := .bool false) (v := .bool false) hF (by kernel_rfl) (fun _ => by kernel_rfl) rfl fun a hF => ?_
                  refine wpQuiet_nil ?_
                  intro w hM
                  refine hK22 _ _ ?_
                  refine cF hF (by kernel_rfl) (by kernel_rfl) ?_
                  refine wp_skip ?_
                  refine hK21 _ _ ?_
                  refine wp_region_lit ?_
                  refine wl (eL 150 12 0 (v := .agg #[.int .i64 sat, .int .i64 slv]) hF hM (by kernel_rfl) rfl rfl (by kernel_rfl) (by kernel_rfl) fun a w hF hM => ?_)
                  refine wl (sStore (i := 11) (off := 0) (cs' := #[.int .i64 sat, .int .i64 slv]) hF hM (by kernel_rfl) rfl rfl (by kernel_rfl) (by kernel_rfl) rfl (by kernel_rfl) fun w hM => ?_)
                  refine wpList_nil ?_
                  refine hK16 _ _ ?_
                  refine wp_region_lit ?_
                  refine sB 1 [(84, .int .i64 (i : Int))] hF (by kernel_rfl) fun a hF => ?_
                  refine wl (eP 85 (v0 := .int .i64 (IntKind.i64.wrap ((i : Int) + 1))) (v := .int .i64 ((i : Int) + 1)) hF (by kernel_rfl) (fun _ => by kernel_rfl) (wi (by omega)) fun a hF => ?_)
                  refine sB 1 [(17, .int .i64 ((i : Int) + 1))] hF (by kernel_rfl) fun a hF => ?_
                  refine wpList_nil ?_
                  refine hK13 _ _ ⟨(i + 1, sat, slv), ⟨(((((((((Fr.nil hF).c hF (i := 16) rfl rfl).c hF (i := 14) rfl rfl).c hF (i := 13) rfl rfl).c hF (i := 11) rfl rfl).c hF (i := 10) rfl rfl).c hF (i := 9) rfl rfl).c hF (i := 3) rfl rfl).c hF (i := 17) rfl (vi (show ((i : Int) + 1 : Int) = ((i + 1) : Int) from by omega))), (hM.sub (((((((((Sub.nil.c (k := 11) rfl rfl).c (k := 10) rfl rfl).c (k := 9) rfl rfl).c (k := 8) rfl rfl).c (k := 7) rfl rfl).c (k := 6) rfl rfl).c (k := 3) rfl rfl).c (k := 2) rfl rfl).c (k := 1) rfl rfl)), (show ((i + 1) : Int) ≤ (lcr.length : Int) from by omega), (show RunAt srt spr lcr ff (i + 1) (rst.take (i + 1)) sat slv from by exact hhere.2.2), (show PrevOk spr lcr rst (i + 1) sat from by exact prevOk_next (by omega))⟩, (show lcr.length - (i + 1) < lcr.length - i from by omega)⟩
            · skip
              replace hF := hF.c hF (i := 89) (v := .bool false) rfl (bF hz8)
              refine cF hF (by kernel_rfl) (by kernel_rfl) ?_
              refine wp_skip ?_
              refine hK18 _ _ ?_
              refine wp_seq_k fun K23 hK23 => ?_
              have htim : timeB (pr lcr i).1 = true := timeB_iff.2 (by omega)
              have hfre : timeB (0) = true := timeB_iff.2 (by omega)
              have hfa : freeAt ff i = 0 := freeAt_out (by omega)
              obtain ⟨sst, e_sst⟩ : ∃ x : Int, x = cstS srt spr aa bl (pr lcr i).1 0 (pr lcr i).2 := ⟨_, rfl⟩
              obtain ⟨sat, e_sat⟩ : ∃ x : Int, x = cstA srt spr aa bl (pr lcr i).1 0 (pr lcr i).2 := ⟨_, rfl⟩
              obtain ⟨slv, e_slv⟩ : ∃ x : Int, x = cstL srt spr aa bl (pr lcr i).1 0 (pr lcr i).2 := ⟨_, rfl⟩
              obtain ⟨see, e_see⟩ : ∃ x : Int, x = cstE srt spr aa bl (pr lcr i).1 0 (pr lcr i).2 := ⟨_, rfl⟩
              refine rF (by kernel_rfl) (by kernel_rfl) (fun S a w => ∃ bb9 : Nat, Fr 217 [(3, some (.int .u16 lt)), (9, some (.pointer (some ⟨bb4, 0, none⟩))), (10, some (.slice AA3 lcr.length cc3)), (11, some (.slice G1 ff.length c1)), (13, some (.slice AA5 rst.length cc5)), (14, some (.pointer (some ⟨bb6, 0, none⟩))), (16, some (.pointer (some ⟨bb7, 0, none⟩))), (17, some (.int .i64 (i : Int))), (18, some (.int .i64 0)), (19, (cond (S.getD 19 false) (some (.int .i64 sst)) none)), (20, (cond (S.getD 18 false) (some (.pointer (some ⟨bb9, 0, none⟩))) none)), (21, (cond (S.getD 21 false) (some (.int .i64 see)) none)), (80, some (.int .i64 (i : Int))), (81, some (.slice AA3 lcr.length cc3)), (82, some (.int .i64 (lcr.length : Int))), (83, some (.bool true)), (86, some (.int .i64 (i : Int))), (87, some (.slice G1 ff.length c1)), (88, some (.int .i64 (ff.length : Int))), (89, some (.bool false)), (94, (cond (S.getD 14 false) (some (.tuple #[.int .i64 sst, .agg #[.int .i64 sat, .int .i64 slv], .int .i64 see])) none)), (95, (cond (S.getD 0 false) (some (.agg #[.int .i64 srt, .int .i64 spr])) none)), (96, (cond (S.getD 1 false) (some (.agg #[.int .i64 aa, .int .i64 bl])) none)), (97, (cond (S.getD 2 false) (some (.slice AA3 lcr.length cc3)) none)), (98, (cond (S.getD 3 false) (some (.int .i64 (i : Int))) none)), (99, (cond (S.getD 4 false) (some (.pointer (some (ea AA3 (i * 2))))) none)), (100, (cond (S.getD 5 false) (some (.pointer (some (ea AA3 (i * 2))))) none)), (101, (cond (S.getD 6 false) (some (.int .i64 (pr lcr i).1)) none)), (102, (cond (S.getD 7 false) (some (.int .i64 0)) none)), (103, (cond (S.getD 8 false) (some (.slice AA3 lcr.length cc3)) none)), (104, (cond (S.getD 9 false) (some (.int .i64 (i : Int))) none)), (105, (cond (S.getD 10 false) (some (.pointer (some (ea AA3 (i * 2))))) none)), (106, (cond (S.getD 11 false) (some (.pointer (some (ea AA3 (i * 2 + 1))))) none)), (107, (cond (S.getD 12 false) (some (.int .i64 (pr lcr i).2)) none)), (108, (cond (S.getD 13 false) (some (.tuple #[.int .i64 sst, .agg #[.int .i64 sat, .int .i64 slv], .int .i64 see])) none)), (109, (cond (S.getD 15 false) (some (.int .i64 sst)) none)), (110, (cond (S.getD 16 false) (some (.agg #[.int .i64 sat, .int .i64 slv])) none)), (111, (cond (S.getD 17 false) (some (.int .i64 see)) none))] a ∧ Mem w0.heap.size w0 [(1, some (.ro Ga (gaps.map (Value.int .u16)))), (2, some (.ro Sa (sizes.map (Value.int .u16)))), (3, some (.ro Fa (free.map (Value.int .u16)))), (6, some (.own (.slice AA3 lcr.length cc3) 57 2 lcr.length (flat2 lcr))), (7, some (.row bb4 23 #[.int .i64 srt, .int .i64 spr])), (8, some (.own (.slice G1 ff.length c1) 3 1 ff.length (ff.map (Value.int .i64)))), (9, some (.own (.slice AA5 rst.length cc5) 3 1 rst.length (rst.map (Value.int .i64)))), (10, some (.row bb6 40 #[.int .i64 rea, .int .i64 reb])), (11, some (.row bb7 40 #[.int .i64 aa, .int .i64 bl])), (13, (cond (S.getD 20 false) (some (.row bb9 40 #[.int .i64 sat, .int .i64 slv])) (cond (S.getD 18 false) (some (.row bb9 40 #[.int .i64 0, .int .i64 0])) none)))] w) ?_ ?_ ?_
              · exact ⟨0, (((((((((((((((((((((((((((((((((((((((Fr.nil hF).co hF (i := 111) (by kernel_rfl)).co hF (i := 110) (by kernel_rfl)).co hF (i := 109) (by kernel_rfl)).co hF (i := 108) (by kernel_rfl)).co hF (i := 107) (by kernel_rfl)).co hF (i := 106) (by kernel_rfl)).co hF (i := 105) (by kernel_rfl)).co hF (i := 104) (by kernel_rfl)).co hF (i := 103) (by kernel_rfl)).co hF (i := 102) (by kernel_rfl)).co hF (i := 101) (by kernel_rfl)).co hF (i := 100) (by kernel_rfl)).co hF (i := 99) (by kernel_rfl)).co hF (i := 98) (by kernel_rfl)).co hF (i := 97) (by kernel_rfl)).co hF (i := 96) (by kernel_rfl)).co hF (i := 95) (by kernel_rfl)).co hF (i := 94) (by kernel_rfl)).co hF (i := 89) (by kernel_rfl)).co hF (i := 88) (by kernel_rfl)).co hF (i := 87) (by kernel_rfl)).co hF (i := 86) (by kernel_rfl)).co hF (i := 83) (by kernel_rfl)).co hF (i := 82) (by kernel_rfl)).co hF (i := 81) (by kernel_rfl)).co hF (i := 80) (by kernel_rfl)).co hF (i := 21) (by kernel_rfl)).co hF (i := 20) (by kernel_rfl)).co hF (i := 19) (by kernel_rfl)).co hF (i := 18) (by kernel_rfl)).co hF (i := 17) (by kernel_rfl)).co hF (i := 16) (by kernel_rfl)).co hF (i := 14) (by kernel_rfl)).co hF (i := 13) (by kernel_rfl)).co hF (i := 11) (by kernel_rfl)).co hF (i := 10) (by kernel_rfl)).co hF (i := 9) (by kernel_rfl)).co hF (i := 3) (by kernel_rfl)), hM.drew.sub ((((((((((Sub.nil.co (k := 13) (by kernel_rfl)).co (k := 11) (by kernel_rfl)).co (k := 10) (by kernel_rfl)).co (k := 9) (by kernel_rfl)).co (k := 8) (by kernel_rfl)).co (k := 7) (by kernel_rfl)).co (k := 6) (by kernel_rfl)).co (k := 3) (by kernel_rfl)).co (k := 2) (by kernel_rfl)).co (k := 1) (by kernel_rfl))⟩
              · refine stC ?_ (stC ?_ (stC ?_ (stC ?_ (stC ?_ (stC ?_ (stC ?_ (stC ?_ (stC ?_ (stC ?_ (stC ?_ (stC ?_ (stC ?_ (stC ?_ (stC ?_ (stC ?_ (stC ?_ (stC ?_ (stC ?_ (stC ?_ (stC ?_ (stC ?_ (trivial))))))))))))))))))))))
                · intro s0 s1 s2 s3 s4 s5 s6 s7 s8 s9 s10 s11 s12 s13 s14 s15 s16 s17 s18 s19 s20 s21 hc hi hp a w hS
                  obtain rfl : s0 = false := hi
                  obtain ⟨bb9, hF, hM⟩ := hS
                  refine eL 95 7 0 (v := .agg #[.int .i64 srt, .int .i64 spr]) hF hM (by kernel_rfl) rfl rfl (by kernel_rfl) (by kernel_rfl) fun a w hF hM => ?_
                  exact ⟨bb9, ((hF.repl 21 (by kernel_rfl)).cast (by kernel_rfl)), (hM.cast (by kernel_rfl))⟩
                · intro s0 s1 s2 s3 s4 s5 s6 s7 s8 s9 s10 s11 s12 s13 s14 s15 s16 s17 s18 s19 s20 s21 hc hi hp a w hS
                  obtain rfl : s1 = false := hi
                  obtain ⟨bb9, hF, hM⟩ := hS
                  refine eL 96 11 0 (v := .agg #[.int .i64 aa, .int .i64 bl]) hF hM (by kernel_rfl) rfl rfl (by kernel_rfl) (by kernel_rfl) fun a w hF hM => ?_
                  exact ⟨bb9, ((hF.repl 22 (by kernel_rfl)).cast (by kernel_rfl)), (hM.cast (by kernel_rfl))⟩
                · intro s0 s1 s2 s3 s4 s5 s6 s7 s8 s9 s10 s11 s12 s13 s14 s15 s16 s17 s18 s19 s20 s21 hc hi hp a w hS
                  obtain rfl : s2 = false := hi
                  obtain ⟨bb9, hF, hM⟩ := hS
                  refine eP 97 (v0 := .slice AA3 lcr.length cc3) (v := .slice AA3 lcr.length cc3) hF (by kernel_rfl) (fun _ => by kernel_rfl) rfl fun a hF => ?_
                  exact ⟨bb9, ((hF.repl 23 (by kernel_rfl)).cast (by kernel_rfl)), (hM.cast (by kernel_rfl))⟩
                · intro s0 s1 s2 s3 s4 s5 s6 s7 s8 s9 s10 s11 s12 s13 s14 s15 s16 s17 s18 s19 s20 s21 hc hi hp a w hS
                  obtain rfl : s3 = false := hi
                  obtain ⟨bb9, hF, hM⟩ := hS
                  refine eP 98 (v0 := .int .i64 (i : Int)) (v := .int .i64 (i : Int)) hF (by kernel_rfl) (fun _ => by kernel_rfl) rfl fun a hF => ?_
                  exact ⟨bb9, ((hF.repl 24 (by kernel_rfl)).cast (by kernel_rfl)), (hM.cast (by kernel_rfl))⟩
                · intro s0 s1 s2 s3 s4 s5 s6 s7 s8 s9 s10 s11 s12 s13 s14 s15 s16 s17 s18 s19 s20 s21 hc hi hp a w hS
                  obtain rfl : s4 = false := hi
                  obtain rfl : s3 = true := hp 3 (by kernel_rfl)
                  obtain rfl : s2 = true := hp 2 (by kernel_rfl)
                  obtain ⟨bb9, hF, hM⟩ := hS
                  refine eM 99 (v := .pointer (some (ea AA3 (i * 2)))) hF hM (by kernel_rfl) (yld_ix (kd := .i64) (e := 57) (len := lcr.length) (cap := cc3) (i := (i : Int)) (size := 2) (A := AA3) hF rfl (by kernel_rfl) (by kernel_rfl) (by kernel_rfl) (by kernel_rfl) (by kernel_rfl) (roO 6 rfl) (by omega) (by omega) (by rw [flat2_length]; omega)) fun a w hF hM => ?_
                  exact ⟨bb9, ((hF.repl 25 (by kernel_rfl)).cast (by kernel_rfl)), (hM.cast (by kernel_rfl))⟩
                · intro s0 s1 s2 s3 s4 s5 s6 s7 s8 s9 s10 s11 s12 s13 s14 s15 s16 s17 s18 s19 s20 s21 hc hi hp a w hS
                  obtain rfl : s5 = false := hi
                  obtain rfl : s4 = true := hp 4 (by kernel_rfl)
                  obtain ⟨bb9, hF, hM⟩ := hS
                  refine eP 100 (v0 := .pointer (some (ea AA3 (i * 2)))) (v := .pointer (some (ea AA3 (i * 2)))) hF (by kernel_rfl) (fun _ => by kernel_rfl) rfl fun a hF => ?_
                  exact ⟨bb9, ((hF.repl 26 (by kernel_rfl)).cast (by kernel_rfl)), (hM.cast (by kernel_rfl))⟩
                · intro s0 s1 s2 s3 s4 s5 s6 s7 s8 s9 s10 s11 s12 s13 s14 s15 s16 s17 s18 s19 s20 s21 hc hi hp a w hS
                  obtain rfl : s6 = false := hi
                  obtain rfl : s5 = true := hp 5 (by kernel_rfl)
                  obtain ⟨bb9, hF, hM⟩ := hS
                  refine eM 101 (v := .int .i64 (pr lcr i).1) hF hM (by kernel_rfl) (yld_ro1 (A := AA3) (j := i * 2) hF rfl (by kernel_rfl) (by kernel_rfl) (roO 6 rfl) (by kernel_rfl) (pr_fst (k := i) (by omega) (by omega))) fun a w hF hM => ?_
                  exact ⟨bb9, ((hF.repl 27 (by kernel_rfl)).cast (by kernel_rfl)), (hM.cast (by kernel_rfl))⟩
                · intro s0 s1 s2 s3 s4 s5 s6 s7 s8 s9 s10 s11 s12 s13 s14 s15 s16 s17 s18 s19 s20 s21 hc hi hp a w hS
                  obtain rfl : s7 = false := hi
                  obtain ⟨bb9, hF, hM⟩ := hS
                  refine eP 102 (v0 := .int .i64 0) (v := .int .i64 0) hF (by kernel_rfl) (fun _ => by kernel_rfl) rfl fun a hF => ?_
                  exact ⟨bb9, ((hF.repl 28 (by kernel_rfl)).cast (by kernel_rfl)), (hM.cast (by kernel_rfl))⟩
                · intro s0 s1 s2 s3 s4 s5 s6 s7 s8 s9 s10 s11 s12 s13 s14 s15 s16 s17 s18 s19 s20 s21 hc hi hp a w hS
                  obtain rfl : s8 = false := hi
                  obtain ⟨bb9, hF, hM⟩ := hS
                  refine eP 103 (v0 := .slice AA3 lcr.length cc3) (v := .slice AA3 lcr.length cc3) hF (by kernel_rfl) (fun _ => by kernel_rfl) rfl fun a hF => ?_
                  exact ⟨bb9, ((hF.repl 29 (by kernel_rfl)).cast (by kernel_rfl)), (hM.cast (by kernel_rfl))⟩
                · intro s0 s1 s2 s3 s4 s5 s6 s7 s8 s9 s10 s11 s12 s13 s14 s15 s16 s17 s18 s19 s20 s21 hc hi hp a w hS
                  obtain rfl : s9 = false := hi
                  obtain ⟨bb9, hF, hM⟩ := hS
                  refine eP 104 (v0 := .int .i64 (i : Int)) (v := .int .i64 (i : Int)) hF (by kernel_rfl) (fun _ => by kernel_rfl) rfl fun a hF => ?_
                  exact ⟨bb9, ((hF.repl 30 (by kernel_rfl)).cast (by kernel_rfl)), (hM.cast (by kernel_rfl))⟩
                · intro s0 s1 s2 s3 s4 s5 s6 s7 s8 s9 s10 s11 s12 s13 s14 s15 s16 s17 s18 s19 s20 s21 hc hi hp a w hS
                  obtain rfl : s10 = false := hi
                  obtain rfl : s9 = true := hp 9 (by kernel_rfl)
                  obtain rfl : s8 = true := hp 8 (by kernel_rfl)
                  obtain ⟨bb9, hF, hM⟩ := hS
                  refine eM 105 (v := .pointer (some (ea AA3 (i * 2)))) hF hM (by kernel_rfl) (yld_ix (kd := .i64) (e := 57) (len := lcr.length) (cap := cc3) (i := (i : Int)) (size := 2) (A := AA3) hF rfl (by kernel_rfl) (by kernel_rfl) (by kernel_rfl) (by kernel_rfl) (by kernel_rfl) (roO 6 rfl) (by omega) (by omega) (by rw [flat2_length]; omega)) fun a w hF hM => ?_
                  exact ⟨bb9, ((hF.repl 31 (by kernel_rfl)).cast (by kernel_rfl)), (hM.cast (by kernel_rfl))⟩
                · intro s0 s1 s2 s3 s4 s5 s6 s7 s8 s9 s10 s11 s12 s13 s14 s15 s16 s17 s18 s19 s20 s21 hc hi hp a w hS
                  obtain rfl : s11 = false := hi
                  obtain rfl : s10 = true := hp 10 (by kernel_rfl)
                  obtain ⟨bb9, hF, hM⟩ := hS
                  refine eP 106 (v0 := .pointer (some (ea AA3 (i * 2 + 1)))) (v := .pointer (some (ea AA3 (i * 2 + 1)))) hF (by kernel_rfl) (fun _ => by kernel_rfl) rfl fun a hF => ?_
                  exact ⟨bb9, ((hF.repl 32 (by kernel_rfl)).cast (by kernel_rfl)), (hM.cast (by kernel_rfl))⟩
                · intro s0 s1 s2 s3 s4 s5 s6 s7 s8 s9 s10 s11 s12 s13 s14 s15 s16 s17 s18 s19 s20 s21 hc hi hp a w hS
                  obtain rfl : s12 = false := hi
                  obtain rfl : s11 = true := hp 11 (by kernel_rfl)
                  obtain ⟨bb9, hF, hM⟩ := hS
                  refine eM 107 (v := .int .i64 (pr lcr i).2) hF hM (by kernel_rfl) (yld_ro1 (A := AA3) (j := i * 2 + 1) hF rfl (by kernel_rfl) (by kernel_rfl) (roO 6 rfl) (by kernel_rfl) (pr_snd (k := i) (by omega) (by omega))) fun a w hF hM => ?_
                  exact ⟨bb9, ((hF.repl 33 (by kernel_rfl)).cast (by kernel_rfl)), (hM.cast (by kernel_rfl))⟩
                · intro s0 s1 s2 s3 s4 s5 s6 s7 s8 s9 s10 s11 s12 s13 s14 s15 s16 s17 s18 s19 s20 s21 hc hi hp a w hS
                  obtain rfl : s13 = false := hi
                  obtain rfl : s12 = true := hp 12 (by kernel_rfl)
                  obtain rfl : s7 = true := hp 7 (by kernel_rfl)
                  obtain rfl : s6 = true := hp 6 (by kernel_rfl)
                  obtain rfl : s1 = true := hp 1 (by kernel_rfl)
                  obtain rfl : s0 = true := hp 0 (by kernel_rfl)
                  obtain ⟨bb9, hF, hM⟩ := hS
                  refine eM 108 (v := .tuple #[.int .i64 sst, .agg #[.int .i64 sat, .int .i64 slv], .int .i64 see]) hF hM (by kernel_rfl) (yld_call (f := 20) (args := #[.agg #[.int .i64 srt, .int .i64 spr], .agg #[.int .i64 aa, .int .i64 bl], .int .i64 (pr lcr i).1, .int .i64 0, .int .i64 (pr lcr i).2]) hF (by kernel_rfl) (fun _ => by kernel_rfl) (fun w hM => by rw [e_sst, e_sat, e_slv, e_see]; exact crStep_w srt spr aa bl (pr lcr i).1 0 (pr lcr i).2 w)) fun a w hF hM => ?_
                  exact ⟨bb9, ((hF.repl 34 (by kernel_rfl)).cast (by kernel_rfl)), (hM.cast (by kernel_rfl))⟩
                · intro s0 s1 s2 s3 s4 s5 s6 s7 s8 s9 s10 s11 s12 s13 s14 s15 s16 s17 s18 s19 s20 s21 hc hi hp a w hS
                  obtain rfl : s14 = false := hi
                  obtain rfl : s13 = true := hp 13 (by kernel_rfl)
                  obtain ⟨bb9, hF, hM⟩ := hS
                  refine eP 94 (v0 := .tuple #[.int .i64 sst, .agg #[.int .i64 sat, .int .i64 slv], .int .i64 see]) (v := .tuple #[.int .i64 sst, .agg #[.int .i64 sat, .int .i64 slv], .int .i64 see]) hF (by kernel_rfl) (fun _ => by kernel_rfl) rfl fun a hF => ?_
                  exact ⟨bb9, ((hF.repl 20 (by kernel_rfl)).cast (by kernel_rfl)), (hM.cast (by kernel_rfl))⟩
                · intro s0 s1 s2 s3 s4 s5 s6 s7 s8 s9 s10 s11 s12 s13 s14 s15 s16 s17 s18 s19 s20 s21 hc hi hp a w hS
                  obtain rfl : s15 = false := hi
                  obtain rfl : s14 = true := hp 14 (by kernel_rfl)
                  obtain ⟨bb9, hF, hM⟩ := hS
                  refine eP 109 (v0 := .int .i64 sst) (v := .int .i64 sst) hF (by kernel_rfl) (fun _ => by kernel_rfl) rfl fun a hF => ?_
                  exact ⟨bb9, ((hF.repl 35 (by kernel_rfl)).cast (by kernel_rfl)), (hM.cast (by kernel_rfl))⟩
                · intro s0 s1 s2 s3 s4 s5 s6 s7 s8 s9 s10 s11 s12 s13 s14 s15 s16 s17 s18 s19 s20 s21 hc hi hp a w hS
                  obtain rfl : s16 = false := hi
                  obtain rfl : s14 = true := hp 14 (by kernel_rfl)
                  obtain ⟨bb9, hF, hM⟩ := hS
                  refine eP 110 (v0 := .agg #[.int .i64 sat, .int .i64 slv]) (v := .agg #[.int .i64 sat, .int .i64 slv]) hF (by kernel_rfl) (fun _ => by kernel_rfl) rfl fun a hF => ?_
                  exact ⟨bb9, ((hF.repl 36 (by kernel_rfl)).cast (by kernel_rfl)), (hM.cast (by kernel_rfl))⟩
                · intro s0 s1 s2 s3 s4 s5 s6 s7 s8 s9 s10 s11 s12 s13 s14 s15 s16 s17 s18 s19 s20 s21 hc hi hp a w hS
                  obtain rfl : s17 = false := hi
                  obtain rfl : s14 = true := hp 14 (by kernel_rfl)
                  obtain ⟨bb9, hF, hM⟩ := hS
                  refine eP 111 (v0 := .int .i64 see) (v := .int .i64 see) hF (by kernel_rfl) (fun _ => by kernel_rfl) rfl fun a hF => ?_
                  exact ⟨bb9, ((hF.repl 37 (by kernel_rfl)).cast (by kernel_rfl)), (hM.cast (by kernel_rfl))⟩
                · intro s0 s1 s2 s3 s4 s5 s6 s7 s8 s9 s10 s11 s12 s13 s14 s15 s16 s17 s18 s19 s20 s21 hc hi hp a w hS
                  obtain rfl : s18 = false := hi
                  obtain rfl : s20 = false := hc.f 20 18 (by kernel_rfl) rfl
                  obtain ⟨bb9, hF, hM⟩ := hS
                  refine eN 20 13 (t := 40) (fun b => .pointer (some ⟨b, 0, none⟩)) #[.int .i64 0, .int .i64 0] hF hM (by kernel_rfl) (fun _ => by kernel_rfl) fun bb9 a w hF hM => ?_
                  exact ⟨bb9, ((hF.repl 10 (by kernel_rfl)).cast (by kernel_rfl)), ((hM.repl 9 (by kernel_rfl)).cast (by kernel_rfl))⟩
                · intro s0 s1 s2 s3 s4 s5 s6 s7 s8 s9 s10 s11 s12 s13 s14 s15 s16 s17 s18 s19 s20 s21 hc hi hp a w hS
                  obtain rfl : s19 = false := hi
                  obtain rfl : s15 = true := hp 15 (by kernel_rfl)
                  obtain ⟨bb9, hF, hM⟩ := hS
                  refine eP 19 (v0 := .int .i64 sst) (v := .int .i64 sst) hF (by kernel_rfl) (fun _ => by kernel_rfl) rfl fun a hF => ?_
                  exact ⟨bb9, ((hF.repl 9 (by kernel_rfl)).cast (by kernel_rfl)), (hM.cast (by kernel_rfl))⟩
                · intro s0 s1 s2 s3 s4 s5 s6 s7 s8 s9 s10 s11 s12 s13 s14 s15 s16 s17 s18 s19 s20 s21 hc hi hp a w hS
                  obtain rfl : s20 = false := hi
                  obtain rfl : s18 = true := hp 18 (by kernel_rfl)
                  obtain rfl : s16 = true := hp 16 (by kernel_rfl)
                  obtain ⟨bb9, hF, hM⟩ := hS
                  refine sStore (i := 13) (off := 0) (cs' := #[.int .i64 sat, .int .i64 slv]) hF hM (by kernel_rfl) rfl rfl (by kernel_rfl) (by kernel_rfl) rfl (by kernel_rfl) fun w hM => ?_
                  exact ⟨bb9, (hF.cast (by kernel_rfl)), ((hM.repl 9 (by kernel_rfl)).cast (by kernel_rfl))⟩
                · intro s0 s1 s2 s3 s4 s5 s6 s7 s8 s9 s10 s11 s12 s13 s14 s15 s16 s17 s18 s19 s20 s21 hc hi hp a w hS
                  obtain rfl : s21 = false := hi
                  obtain rfl : s17 = true := hp 17 (by kernel_rfl)
                  obtain ⟨bb9, hF, hM⟩ := hS
                  refine eP 21 (v0 := .int .i64 see) (v := .int .i64 see) hF (by kernel_rfl) (fun _ => by kernel_rfl) rfl fun a hF => ?_
                  exact ⟨bb9, ((hF.repl 11 (by kernel_rfl)).cast (by kernel_rfl)), (hM.cast (by kernel_rfl))⟩
              · intro a w hS
                obtain ⟨bb9, hF, hM⟩ := hS
                replace hF : Fr 217 [(3, some (.int .u16 lt)), (9, some (.pointer (some ⟨bb4, 0, none⟩))), (10, some (.slice AA3 lcr.length cc3)), (11, some (.slice G1 ff.length c1)), (13, some (.slice AA5 rst.length cc5)), (14, some (.pointer (some ⟨bb6, 0, none⟩))), (16, some (.pointer (some ⟨bb7, 0, none⟩))), (17, some (.int .i64 (i : Int))), (18, some (.int .i64 0)), (19, some (.int .i64 sst)), (20, some (.pointer (some ⟨bb9, 0, none⟩))), (21, some (.int .i64 see)), (80, some (.int .i64 (i : Int))), (81, some (.slice AA3 lcr.length cc3)), (82, some (.int .i64 (lcr.length : Int))), (83, some (.bool true)), (86, some (.int .i64 (i : Int))), (87, some (.slice G1 ff.length c1)), (88, some (.int .i64 (ff.length : Int))), (89, some (.bool false)), (94, some (.tuple #[.int .i64 sst, .agg #[.int .i64 sat, .int .i64 slv], .int .i64 see])), (95, some (.agg #[.int .i64 srt, .int .i64 spr])), (96, some (.agg #[.int .i64 aa, .int .i64 bl])), (97, some (.slice AA3 lcr.length cc3)), (98, some (.int .i64 (i : Int))), (99, some (.pointer (some (ea AA3 (i * 2))))), (100, some (.pointer (some (ea AA3 (i * 2))))), (101, some (.int .i64 (pr lcr i).1)), (102, some (.int .i64 0)), (103, some (.slice AA3 lcr.length cc3)), (104, some (.int .i64 (i : Int))), (105, some (.pointer (some (ea AA3 (i * 2))))), (106, some (.pointer (some (ea AA3 (i * 2 + 1))))), (107, some (.int .i64 (pr lcr i).2)), (108, some (.tuple #[.int .i64 sst, .agg #[.int .i64 sat, .int .i64 slv], .int .i64 see])), (109, some (.int .i64 sst)), (110, some (.agg #[.int .i64 sat, .int .i64 slv])), (111, some (.int .i64 see))] a := hF.cast (by kernel_rfl)
                replace hM : Mem w0.heap.size w0 [(1, some (.ro Ga (gaps.map (Value.int .u16)))), (2, some (.ro Sa (sizes.map (Value.int .u16)))), (3, some (.ro Fa (free.map (Value.int .u16)))), (6, some (.own (.slice AA3 lcr.length cc3) 57 2 lcr.length (flat2 lcr))), (7, some (.row bb4 23 #[.int .i64 srt, .int .i64 spr])), (8, some (.own (.slice G1 ff.length c1) 3 1 ff.length (ff.map (Value.int .i64)))), (9, some (.own (.slice AA5 rst.length cc5) 3 1 rst.length (rst.map (Value.int .i64)))), (10, some (.row bb6 40 #[.int .i64 rea, .int .i64 reb])), (11, some (.row bb7 40 #[.int .i64 aa, .int .i64 bl])), (13, some (.row bb9 40 #[.int .i64 sat, .int .i64 slv]))] w := hM.cast (by kernel_rfl)
                refine hK23 _ _ ?_
                refine wp_seq_k fun K24 hK24 => ?_
                refine wp_seq_k fun K25 hK25 => ?_
                have hhere := runAt_here (t := (pr lcr i).1) (s := (pr lcr i).2) hRA hfrom (pr_some (by omega))
                rw [hfa] at hhere
                have hse : see = 0 := by rw [e_see]; exact cst_zero hslo hRA.2.1 htim hfre hprk.2.2.1 hprk.2.2.2 hhere.1
                have hcs := cst_ok (e_see.symm.trans hse)
                rw [← e_sst, ← e_sat, ← e_slv] at hcs
                have hsf := step_facts (free := 0) (slopeB_of hslo) hRA.2.1 htim hfre hprk.2.2.1 hprk.2.2.2
                rw [← hcs.1, ← hcs.2.1, ← hcs.2.2] at hhere hsf
                have hstb := stateB_iff.1 hhere.1
                have hSE : stateE sat slv = 0 := stateE_yes hhere.1
                by_cases hz12 : 0 < (i : Int)
                · skip
                  have hz13 := prevOk_at hprv pr_lcr (by omega) hz12
                  refine rQ hM (by kernel_rfl) (by kernel_rfl) ?_
                  refine eQ 112 (v0 := .int .i64 see) (v := .int .i64 see) hF (by kernel_rfl) (fun _ => by kernel_rfl) rfl fun a hF => ?_
                  refine eQ 113 (v0 := .bool (!decide (see = 0))) (v := .bool false) hF (by kernel_rfl) (fun _ => by kernel_rfl) (nT (by omega)) fun a hF => ?_
                  refine eQ 114 (v0 := .bool false) (v := .bool false) hF (by kernel_rfl) (fun _ => by kernel_rfl) rfl fun a hF => ?_
                  refine eQ 115 (v0 := .int .i64 sst) (v := .int .i64 sst) hF (by kernel_rfl) (fun _ => by kernel_rfl) rfl fun a hF => ?_
                  refine eQ 116 (v0 := .slice AA5 rst.length cc5) (v := .slice AA5 rst.length cc5) hF (by kernel_rfl) (fun _ => by kernel_rfl) rfl fun a hF => ?_
                  refine eQ 117 (v0 := .int .i64 (i : Int)) (v := .int .i64 (i : Int)) hF (by kernel_rfl) (fun _ => by kernel_rfl) rfl fun a hF => ?_
                  refine eQ2 118 (v := .pointer (some (ea AA5 (i)))) hF (by kernel_rfl) (yld_ix (kd := .i64) (e := 3) (len := rst.length) (cap := cc5) (i := (i : Int)) (size := 1) (A := AA5) hF rfl (by kernel_rfl) (by kernel_rfl) (by kernel_rfl) (by kernel_rfl) (by kernel_rfl) (roO 9 rfl) (by omega) (by omega) (by rw [List.length_map]; omega)) fun a hF => ?_
                  refine eQ2 119 (v := .int .i64 (nt rst i)) hF (by kernel_rfl) (yld_ro1 (A := AA5) (j := i) hF rfl (by kernel_rfl) (by kernel_rfl) (roO 9 rfl) (by kernel_rfl) (nt_at (by omega))) fun a hF => ?_
                  refine eQ 120 (v0 := .bool (!decide (sst = nt rst i))) (v := .bool false) hF (by kernel_rfl) (fun _ => by kernel_rfl) (nT (by omega)) fun a hF => ?_
                  refine eQ 121 (v0 := .bool false) (v := .bool false) hF (by kernel_rfl) (fun _ => by kernel_rfl) rfl fun a hF => ?_
                  refine eQ 122 (v0 := .bool false) (v := .bool false) hF (by kernel_rfl) (fun _ => by kernel_rfl) rfl fun a hF => ?_
                  refine eQ 123 (v0 := .int .i64 (i : Int)) (v := .int .i64 (i : Int)) hF (by kernel_rfl) (fun _ => by kernel_rfl) rfl fun a hF => ?_
                  refine eQ 124 (v0 := .bool (decide (0 < (i : Int)))) (v := .bool true) hF (by kernel_rfl) (fun _ => by kernel_rfl) (bT hz12) fun a hF => ?_
                  refine eQ 125 (v0 := .bool true) (v := .bool true) hF (by kernel_rfl) (fun _ => by kernel_rfl) rfl fun a hF => ?_
                  refine eQ 126 (v0 := .int .i64 sst) (v := .int .i64 sst) hF (by kernel_rfl) (fun _ => by kernel_rfl) rfl fun a hF => ?_
                  refine eQ 127 (v0 := .slice AA5 rst.length cc5) (v := .slice AA5 rst.length cc5) hF (by kernel_rfl) (fun _ => by kernel_rfl) rfl fun a hF => ?_
                  refine eQ 128 (v0 := .int .i64 (i : Int)) (v := .int .i64 (i : Int)) hF (by kernel_rfl) (fun _ => by kernel_rfl) rfl fun a hF => ?_
                  refine eQ 129 (v0 := .int .i64 (IntKind.i64.wrap ((i : Int) - 1))) (v := .int .i64 ((i : Int) - 1)) hF (by kernel_rfl) (fun _ => by kernel_rfl) (wi (by omega)) fun a hF => ?_
                  refine eQ2 130 (v := .pointer (some (ea AA5 (i - 1)))) hF (by kernel_rfl) (yld_ix (kd := .i64) (e := 3) (len := rst.length) (cap := cc5) (i := (i : Int) - 1) (size := 1) (A := AA5) hF rfl (by kernel_rfl) (by kernel_rfl) (by kernel_rfl) (by kernel_rfl) (by kernel_rfl) (roO 9 rfl) (by omega) (by omega) (by rw [List.length_map]; omega)) fun a hF => ?_
                  refine eQ2 131 (v := .int .i64 (nt rst (i - 1))) hF (by kernel_rfl) (yld_ro1 (A := AA5) (j := i - 1) hF rfl (by kernel_rfl) (by kernel_rfl) (roO 9 rfl) (by kernel_rfl) (nt_at (by omega))) fun a hF => ?_
                  refine eQ 132 (v0 := .slice AA3 lcr.length cc3) (v := .slice AA3 lcr.length cc3) hF (by kernel_rfl) (fun _ => by kernel_rfl) rfl fun a hF => ?_
                  refine eQ 133 (v0 := .int .i64 (i : Int)) (v := .int .i64 (i : Int)) hF (by kernel_rfl) (fun _ => by kernel_rfl) rfl fun a hF => ?_
                  refine eQ 134 (v0 := .int .i64 (IntKind.i64.wrap ((i : Int) - 1))) (v := .int .i64 ((i : Int) - 1)) hF (by kernel_rfl) (fun _ => by kernel_rfl) (wi (by omega)) fun a hF => ?_
                  refine eQ2 135 (v := .pointer (some (ea AA3 ((i - 1) * 2)))) hF (by kernel_rfl) (yld_ix (kd := .i64) (e := 57) (len := lcr.length) (cap := cc3) (i := (i : Int) - 1) (size := 2) (A := AA3) hF rfl (by kernel_rfl) (by kernel_rfl) (by kernel_rfl) (by kernel_rfl) (by kernel_rfl) (roO 6 rfl) (by omega) (by omega) (by rw [flat2_length]; omega)) fun a hF => ?_
                  refine eQ 136 (v0 := .pointer (some (ea AA3 ((i - 1) * 2 + 1)))) (v := .pointer (some (ea AA3 ((i - 1) * 2 + 1)))) hF (by kernel_rfl) (fun _ => by kernel_rfl) rfl fun a hF => ?_
                  refine eQ2 137 (v := .int .i64 (pr lcr (i - 1)).2) hF (by kernel_rfl) (yld_ro1 (A := AA3) (j := (i - 1) * 2 + 1) hF rfl (by kernel_rfl) (by kernel_rfl) (roO 6 rfl) (by kernel_rfl) (pr_snd (k := i - 1) (by omega) (by omega))) fun a hF => ?_
                  refine eQ 138 (v0 := .pointer (some ⟨bb4, 1, none⟩)) (v := .pointer (some ⟨bb4, 1, none⟩)) hF (by kernel_rfl) (fun _ => by kernel_rfl) rfl fun a hF => ?_
                  refine eQL 139 7 1 (v := .int .i64 spr) hF (by kernel_rfl) rfl rfl (by kernel_rfl) (by kernel_rfl) fun a hF => ?_
                  have hz14 : 1 ≤ (pr lcr (i - 1)).2 * spr ∧ (pr lcr (i - 1)).2 * spr ≤ 1542000 := mul_bd (1) (1542) (1) (1000) (by omega) (by omega) (by omega) (by omega) (by decide)
                  refine eQ 140 (v0 := .int .i64 (IntKind.i64.wrap ((pr lcr (i - 1)).2 * spr))) (v := .int .i64 ((pr lcr (i - 1)).2 * spr)) hF (by kernel_rfl) (fun _ => by kernel_rfl) (wi (by omega)) fun a hF => ?_
                  refine eQ 141 (v0 := .int .i64 (IntKind.i64.wrap (nt rst (i - 1) + (pr lcr (i - 1)).2 * spr))) (v := .int .i64 (nt rst (i - 1) + (pr lcr (i - 1)).2 * spr)) hF (by kernel_rfl) (fun _ => by kernel_rfl) (wi (by omega)) fun a hF => ?_
                  refine eQ 142 (v0 := .bool (decide (sst < nt rst (i - 1) + (pr lcr (i - 1)).2 * spr))) (v := .bool false) hF (by kernel_rfl) (fun _ => by kernel_rfl) (bF (by omega)) fun a hF => ?_
                  refine eQ 143 (v0 := .bool false) (v := .bool false) hF (by kernel_rfl) (fun _ => by kernel_rfl) rfl fun a hF => ?_
                  refine eQ 144 (v0 := .bool false) (v := .bool false) hF (by kernel_rfl) (fun _ => by kernel_rfl) rfl fun a hF => ?_
                  refine eQ 145 (v0 := .bool false) (v := .bool false) hF (by kernel_rfl) (fun _ => by kernel_rfl) rfl fun a hF => ?_
                  refine eQL 146 13 0 (v := .agg #[.int .i64 sat, .int .i64 slv]) hF (by kernel_rfl) rfl rfl (by kernel_rfl) (by kernel_rfl) fun a hF => ?_
                  refine eQ2 147 (v := .int .i64 (stateE sat slv)) hF (by kernel_rfl) (yld_call (f := 18) (args := #[.agg #[.int .i64 sat, .int .i64 slv]]) hF (by kernel_rfl) (fun _ => by kernel_rfl) (fun w hM => crState_w sat slv w)) fun a hF => ?_
                  refine eQ 148 (v0 := .bool (!decide (stateE sat slv = 0))) (v := .bool false) hF (by kernel_rfl) (fun _ => by kernel_rfl) (nT hSE) fun a hF => ?_
                  refine eQ 149 (v0 := .bool false) (v := .bool false) hF (by kernel_rfl) (fun _ => by kernel_rfl) rfl fun a hF => ?_
                  refine wpQuiet_nil ?_
                  intro w hM
                  refine hK25 _ _ ?_
                  refine cF hF (by kernel_rfl) (by kernel_rfl) ?_
                  refine wp_skip ?_
                  refine hK24 _ _ ?_
                  refine wp_region_lit ?_
                  refine wl (eL 150 13 0 (v := .agg #[.int .i64 sat, .int .i64 slv]) hF hM (by kernel_rfl) rfl rfl (by kernel_rfl) (by kernel_rfl) fun a w hF hM => ?_)
                  refine wl (sStore (i := 11) (off := 0) (cs' := #[.int .i64 sat, .int .i64 slv]) hF hM (by kernel_rfl) rfl rfl (by kernel_rfl) (by kernel_rfl) rfl (by kernel_rfl) fun w hM => ?_)
                  refine wpList_nil ?_
                  refine hK16 _ _ ?_
                  refine wp_region_lit ?_
                  refine sB 1 [(84, .int .i64 (i : Int))] hF (by kernel_rfl) fun a hF => ?_
                  refine wl (eP 85 (v0 := .int .i64 (IntKind.i64.wrap ((i : Int) + 1))) (v := .int .i64 ((i : Int) + 1)) hF (by kernel_rfl) (fun _ => by kernel_rfl) (wi (by omega)) fun a hF => ?_)
                  refine sB 1 [(17, .int .i64 ((i : Int) + 1))] hF (by kernel_rfl) fun a hF => ?_
                  refine wpList_nil ?_
                  refine hK13 _ _ ⟨(i + 1, sat, slv), ⟨(((((((((Fr.nil hF).c hF (i := 16) rfl rfl).c hF (i := 14) rfl rfl).c hF (i := 13) rfl rfl).c hF (i := 11) rfl rfl).c hF (i := 10) rfl rfl).c hF (i := 9) rfl rfl).c hF (i := 3) rfl rfl).c hF (i := 17) rfl (vi (show ((i : Int) + 1 : Int) = ((i + 1) : Int) from by omega))), (hM.sub (((((((((Sub.nil.c (k := 11) rfl rfl).c (k := 10) rfl rfl).c (k := 9) rfl rfl).c (k := 8) rfl rfl).c (k := 7) rfl rfl).c (k := 6) rfl rfl).c (k := 3) rfl rfl).c (k := 2) rfl rfl).c (k := 1) rfl rfl)), (show ((i + 1) : Int) ≤ (lcr.length : Int) from by omega), (show RunAt srt spr lcr ff (i + 1) (rst.take (i + 1)) sat slv from by exact hhere.2.2), (show PrevOk spr lcr rst (i + 1) sat from by exact prevOk_next (by omega))⟩, (show lcr.length - (i + 1) < lcr.length - i from by omega)⟩
                · skip
                  refine rQ hM (by kernel_rfl) (by kernel_rfl) ?_
                  refine eQ 112 (v0 := .int .i64 see) (v := .int .i64 see) hF (by kernel_rfl) (fun _ => by kernel_rfl) rfl fun a hF => ?_
                  refine eQ 113 (v0 := .bool (!decide (see = 0))) (v := .bool false) hF (by kernel_rfl) (fun _ => by kernel_rfl) (nT (by omega)) fun a hF => ?_
                  refine eQ 114 (v0 := .bool false) (v := .bool false) hF (by kernel_rfl) (fun _ => by kernel_rfl) rfl fun a hF => ?_
                  refine eQ 115 (v0 := .int .i64 sst) (v := .int .i64 sst) hF (by kernel_rfl) (fun _ => by kernel_rfl) rfl fun a hF => ?_
                  refine eQ 116 (v0 := .slice AA5 rst.length cc5) (v := .slice AA5 rst.length cc5) hF (by kernel_rfl) (fun _ => by kernel_rfl) rfl fun a hF => ?_
                  refine eQ 117 (v0 := .int .i64 (i : Int)) (v := .int .i64 (i : Int)) hF (by kernel_rfl) (fun _ => by kernel_rfl) rfl fun a hF => ?_
                  refine eQ2 118 (v := .pointer (some (ea AA5 (i)))) hF (by kernel_rfl) (yld_ix (kd := .i64) (e := 3) (len := rst.length) (cap := cc5) (i := (i : Int)) (size := 1) (A := AA5) hF rfl (by kernel_rfl) (by kernel_rfl) (by kernel_rfl) (by kernel_rfl) (by kernel_rfl) (roO 9 rfl) (by omega) (by omega) (by rw [List.length_map]; omega)) fun a hF => ?_
                  refine eQ2 119 (v := .int .i64 (nt rst i)) hF (by kernel_rfl) (yld_ro1 (A := AA5) (j := i) hF rfl (by kernel_rfl) (by kernel_rfl) (roO 9 rfl) (by kernel_rfl) (nt_at (by omega))) fun a hF => ?_
                  refine eQ 120 (v0 := .bool (!decide (sst = nt rst i))) (v := .bool false) hF (by kernel_rfl) (fun _ => by kernel_rfl) (nT (by omega)) fun a hF => ?_
                  refine eQ 121 (v0 := .bool false) (v := .bool false) hF (by kernel_rfl) (fun _ => by kernel_rfl) rfl fun a hF => ?_
                  refine eQ 122 (v0 := .bool false) (v := .bool false) hF (by kernel_rfl) (fun _ => by kernel_rfl) rfl fun a hF => ?_
                  refine eQ 123 (v0 := .int .i64 (i : Int)) (v := .int .i64 (i : Int)) hF (by kernel_rfl) (fun _ => by kernel_rfl) rfl fun a hF => ?_
                  refine eQ 124 (v0 := .bool (decide (0 < (i : Int)))) (v := .bool false) hF (by kernel_rfl) (fun _ => by kernel_rfl) (bF hz12) fun a hF => ?_
                  refine eQ 125 (v0 := .bool false) (v := .bool false) hF (by kernel_rfl) (fun _ => by kernel_rfl) rfl fun a hF => ?_
                  refine qSkip hF (by kernel_rfl) rfl (by decide) fun a hF => ?_
                  refine qSkip hF (by kernel_rfl) rfl (by decide) fun a hF => ?_
                  refine qSkip hF (by kernel_rfl) rfl (by decide) fun a hF => ?_
                  refine qSkip hF (by kernel_rfl) rfl (by decide) fun a hF => ?_
                  refine qSkip hF (by kernel_rfl) rfl (by decide) fun a hF => ?_
                  refine qSkip hF (by kernel_rfl) rfl (by decide) fun a hF => ?_
                  refine qSkip hF (by kernel_rfl) rfl (by decide) fun a hF => ?_
                  refine qSkip hF (by kernel_rfl) rfl (by decide) fun a hF => ?_
                  refine qSkip hF (by kernel_rfl) rfl (by decide) fun a hF => ?_
                  refine qSkip hF (by kernel_rfl) rfl (by decide) fun a hF => ?_
                  refine qSkip hF (by kernel_rfl) rfl (by decide) fun a hF => ?_
                  refine qSkip hF (by kernel_rfl) rfl (by decide) fun a hF => ?_
                  refine qSkip hF (by kernel_rfl) rfl (by decide) fun a hF => ?_
                  refine qSkip hF (by kernel_rfl) rfl (by decide) fun a hF => ?_
                  refine qSkip hF (by kernel_rfl) rfl (by decide) fun a hF => ?_
                  refine qSkip hF (by kernel_rfl) rfl (by decide) fun a hF => ?_
                  refine qSkip hF (by kernel_rfl) rfl (by decide) fun a hF => ?_
                  refine eQ 143 (v0 := .bool false) (v := .bool false) hF (by kernel_rfl) (fun _ => by kernel_rfl) rfl fun a hF => ?_
                  refine eQ 144 (v0 := .bool false) (v := .bool false) hF (by kernel_rfl) (fun _ => by kernel_rfl) rfl fun a hF => ?_
                  refine eQ 145 (v0 := .bool false) (v := .bool false) hF (by kernel_rfl) (fun _ => by kernel_rfl) rfl fun a hF => ?_
                  refine eQL 146 13 0 (v := .agg #[.int .i64 sat, .int .i64 slv]) hF (by kernel_rfl) rfl rfl (by kernel_rfl) (by kernel_rfl) fun a hF => ?_
                  refine eQ2 147 (v := .int .i64 (stateE sat slv)) hF (by kernel_rfl) (yld_call (f := 18) (args := #[.agg #[.int .i64 sat, .int .i64 slv]]) hF (by kernel_rfl) (fun _ => by kernel_rfl) (fun w hM => crState_w sat slv w)) fun a hF => ?_
                  refine eQ 148 (v0 := .bool (!decide (stateE sat slv = 0))) (v := .bool false) hF (by kernel_rfl) (fun _ => by kernel_rfl) (nT hSE) fun a hF => ?_
                  refine eQ 149 (v0 := .bool false) (v := .bool false) hF (by kernel_rfl) (fun _ => by kernel_rfl) rfl fun a hF => ?_
                  refine wpQuiet_nil ?_
                  intro w hM
                  refine hK25 _ _ ?_
                  refine cF hF (by kernel_rfl) (by kernel_rfl) ?_
                  refine wp_skip ?_
                  refine hK24 _ _ ?_
                  refine wp_region_lit ?_
                  refine wl (eL 150 13 0 (v := .agg #[.int .i64 sat, .int .i64 slv]) hF hM (by kernel_rfl) rfl rfl (by kernel_rfl) (by kernel_rfl) fun a w hF hM => ?_)
                  refine wl (sStore (i := 11) (off := 0) (cs' := #[.int .i64 sat, .int .i64 slv]) hF hM (by kernel_rfl) rfl rfl (by kernel_rfl) (by kernel_rfl) rfl (by kernel_rfl) fun w hM => ?_)
                  refine wpList_nil ?_
                  refine hK16 _ _ ?_
                  refine wp_region_lit ?_
                  refine sB 1 [(84, .int .i64 (i : Int))] hF (by kernel_rfl) fun a hF => ?_
                  refine wl (eP 85 (v0 := .int .i64 (IntKind.i64.wrap ((i : Int) + 1))) (v := .int .i64 ((i : Int) + 1)) hF (by kernel_rfl) (fun _ => by kernel_rfl) (wi (by omega)) fun a hF => ?_)
                  refine sB 1 [(17, .int .i64 ((i : Int) + 1))] hF (by kernel_rfl) fun a hF => ?_
                  refine wpList_nil ?_
                  refine hK13 _ _ ⟨(i + 1, sat, slv), ⟨(((((((((Fr.nil hF).c hF (i := 16) rfl rfl).c hF (i := 14) rfl rfl).c hF (i := 13) rfl rfl).c hF (i := 11) rfl rfl).c hF (i := 10) rfl rfl).c hF (i := 9) rfl rfl).c hF (i := 3) rfl rfl).c hF (i := 17) rfl (vi (show ((i : Int) + 1 : Int) = ((i + 1) : Int) from by omega))), (hM.sub (((((((((Sub.nil.c (k := 11) rfl rfl).c (k := 10) rfl rfl).c (k := 9) rfl rfl).c (k := 8) rfl rfl).c (k := 7) rfl rfl).c (k := 6) rfl rfl).c (k := 3) rfl rfl).c (k := 2) rfl rfl).c (k := 1) rfl rfl)), (show ((i + 1) : Int) ≤ (lcr.length : Int) from by omega), (show RunAt srt spr lcr ff (i + 1) (rst.take (i + 1)) sat slv from by exact hhere.2.2), (show PrevOk spr lcr rst (i + 1) sat from by exact prevOk_next (by omega))⟩, (show lcr.length - (i + 1) < lcr.length - i from by omega)⟩
          · skip
            replace hF := hF.c hF (i := 83) (v := .bool false) rfl (bF hz7)
            refine cF hF (by kernel_rfl) (by kernel_rfl) ?_
            refine wp_exit ?_
            refine hK11 _ _ ?_
            refine wp_seq_k fun K26 hK26 => ?_
            have hlst := runAt_last hRA hfrom (by omega)
            have hends : [aa, bl] = [rea, reb] := by rw [hlst.1, hlst.2]
            refine rQ hM (by kernel_rfl) (by kernel_rfl) ?_
            refine eQ 151 (v0 := .pointer (some ⟨bb7, 0, none⟩)) (v := .pointer (some ⟨bb7, 0, none⟩)) hF (by kernel_rfl) (fun _ => by kernel_rfl) rfl fun a hF => ?_
            refine eQL 152 11 0 (v := .int .i64 aa) hF (by kernel_rfl) rfl rfl (by kernel_rfl) (by kernel_rfl) fun a hF => ?_
            refine eQ 153 (v0 := .int .i64 (IntKind.i64.wrap (aa + 1))) (v := .int .i64 (aa + 1)) hF (by kernel_rfl) (fun _ => by kernel_rfl) (wi (by omega)) fun a hF => ?_
            refine eQ 154 (v0 := .int .u16 lt) (v := .int .u16 lt) hF (by kernel_rfl) (fun _ => by kernel_rfl) rfl fun a hF => ?_
            refine eQ 155 (v0 := .int .i64 (IntKind.i64.wrap lt)) (v := .int .i64 lt) hF (by kernel_rfl) (fun _ => by kernel_rfl) (vi (IntWalk.i64_in _ (by omega))) fun a hF => ?_
            refine eQ 156 (v0 := .int .i64 (IntKind.i64.wrap (aa + 1 + lt))) (v := .int .i64 (aa + 1 + lt)) hF (by kernel_rfl) (fun _ => by kernel_rfl) (wi (by omega)) fun a hF => ?_
            refine eQ 157 (v0 := .pointer (some ⟨bb7, 1, none⟩)) (v := .pointer (some ⟨bb7, 1, none⟩)) hF (by kernel_rfl) (fun _ => by kernel_rfl) rfl fun a hF => ?_
            refine eQL 158 11 1 (v := .int .i64 bl) hF (by kernel_rfl) rfl rfl (by kernel_rfl) (by kernel_rfl) fun a hF => ?_
            refine eQ 159 (v0 := .int .i64 (IntKind.i64.wrap (0 - bl))) (v := .int .i64 (-bl)) hF (by kernel_rfl) (fun _ => by kernel_rfl) (vi (by rw [Int.zero_sub]; exact (w64 (by omega)))) fun a hF => ?_
            refine eQ 160 (v0 := .int .i64 (if -bl > 0 then -bl else 0)) (v := .int .i64 (max 0 (-bl))) hF (by kernel_rfl) (fun _ => by kernel_rfl) (vi (max_if _ _)) fun a hF => ?_
            refine eQ 161 (v0 := .pointer (some ⟨bb4, 0, none⟩)) (v := .pointer (some ⟨bb4, 0, none⟩)) hF (by kernel_rfl) (fun _ => by kernel_rfl) rfl fun a hF => ?_
            refine eQL 162 7 0 (v := .int .i64 srt) hF (by kernel_rfl) rfl rfl (by kernel_rfl) (by kernel_rfl) fun a hF => ?_
            refine eQ2 163 (v := .int .i64 (max 0 (-bl) / srt)) hF (by kernel_rfl) (yld_quo (max 0 (-bl)) srt hF rfl (by kernel_rfl) (by kernel_rfl) (by kernel_rfl) (by omega) (qpos_i64 (by omega) (by omega) (by omega))) fun a hF => ?_
            have := ediv_le_self_of (p := max 0 (-bl)) (q := srt) (by omega) (by omega)
            refine eQ 164 (v0 := .int .i64 (IntKind.i64.wrap (aa + 1 + lt + max 0 (-bl) / srt))) (v := .int .i64 (aa + 1 + lt + max 0 (-bl) / srt)) hF (by kernel_rfl) (fun _ => by kernel_rfl) (wi (by omega)) fun a hF => ?_
            refine eQ 165 (v0 := .int .i64 (IntKind.i64.wrap (aa + 1 + lt + max 0 (-bl) / srt + 1))) (v := .int .i64 (aa + 1 + lt + max 0 (-bl) / srt + 1)) hF (by kernel_rfl) (fun _ => by kernel_rfl) (wi (by omega)) fun a hF => ?_
            refine eQ 22 (v0 := .int .i64 (aa + 1 + lt + max 0 (-bl) / srt + 1)) (v := .int .i64 (aa + 1 + lt + max 0 (-bl) / srt + 1)) hF (by kernel_rfl) (fun _ => by kernel_rfl) rfl fun a hF => ?_
            refine wpQuiet_nil ?_
            intro w hM
            refine hK26 _ _ ?_
            refine wp_seq_k fun K27 hK27 => ?_
            obtain ⟨rr, e_rr⟩ : ∃ x : Int, x = aa + 1 + lt + max 0 (-bl) / srt + 1 := ⟨_, rfl⟩
            replace hF := hF.c hF (i := 22) (v := .int .i64 rr) rfl (vi e_rr.symm)
            refine wp_region_lit ?_
            refine wl (eL 167 7 0 (v := .agg #[.int .i64 srt, .int .i64 spr]) hF hM (by kernel_rfl) rfl rfl (by kernel_rfl) (by kernel_rfl) fun a w hF hM => ?_)
            refine wl (eL 168 11 0 (v := .agg #[.int .i64 aa, .int .i64 bl]) hF hM (by kernel_rfl) rfl rfl (by kernel_rfl) (by kernel_rfl) fun a w hF hM => ?_)
            refine sB 1 [(169, .int .i64 rr)] hF (by kernel_rfl) fun a hF => ?_
            refine wl (eP 170 (v0 := .int .i64 (if 1073741824 < rr then 1073741824 else rr)) (v := .int .i64 (min rr 1073741824)) hF (by kernel_rfl) (fun _ => by kernel_rfl) (vi (min_if _ _)) fun a hF => ?_)
            obtain ⟨sst, e_sst⟩ : ∃ x : Int, x = cstS srt spr aa bl (min rr 1073741824) 0 64 := ⟨_, rfl⟩
            obtain ⟨sat, e_sat⟩ : ∃ x : Int, x = cstA srt spr aa bl (min rr 1073741824) 0 64 := ⟨_, rfl⟩
            obtain ⟨slv, e_slv⟩ : ∃ x : Int, x = cstL srt spr aa bl (min rr 1073741824) 0 64 := ⟨_, rfl⟩
            obtain ⟨see, e_see⟩ : ∃ x : Int, x = cstE srt spr aa bl (min rr 1073741824) 0 64 := ⟨_, rfl⟩
            refine wl (eM 171 (v := .tuple #[.int .i64 sst, .agg #[.int .i64 sat, .int .i64 slv], .int .i64 see]) hF hM (by kernel_rfl) (yld_call (f := 20) (args := #[.agg #[.int .i64 srt, .int .i64 spr], .agg #[.int .i64 aa, .int .i64 bl], .int .i64 (min rr 1073741824), .int .i64 0, .int .i64 64]) hF (by kernel_rfl) (fun _ => by kernel_rfl) (fun w hM => by rw [e_sst, e_sat, e_slv, e_see]; exact crStep_w srt spr aa bl (min rr 1073741824) 0 64 w)) fun a w hF hM => ?_)
            refine sB 4 [(166, .tuple #[.int .i64 sst, .agg #[.int .i64 sat, .int .i64 slv], .int .i64 see]), (172, .int .i64 sst), (173, .agg #[.int .i64 sat, .int .i64 slv]), (174, .int .i64 see)] hF (by kernel_rfl) fun a hF => ?_
            refine wl (eN 24 14 (t := 40) (fun b => .pointer (some ⟨b, 0, none⟩)) #[.int .i64 0, .int .i64 0] hF hM (by kernel_rfl) (fun _ => by kernel_rfl) fun bb10 a w hF hM => ?_)
            refine sB 1 [(23, .int .i64 sst)] hF (by kernel_rfl) fun a hF => ?_
            refine wl (sStore (i := 14) (off := 0) (cs' := #[.int .i64 sat, .int .i64 slv]) hF hM (by kernel_rfl) rfl rfl (by kernel_rfl) (by kernel_rfl) rfl (by kernel_rfl) fun w hM => ?_)
            refine sB 1 [(25, .int .i64 see)] hF (by kernel_rfl) fun a hF => ?_
            refine wpList_nil ?_
            refine hK27 _ _ ?_
            refine wp_seq_k fun K28 hK28 => ?_
            refine wp_seq_k fun K29 hK29 => ?_
            by_cases hz15 : 536870912 < rr
            · skip
              refine wp_region_lit ?_
              refine sB 1 [(175, .int .i64 rr)] hF (by kernel_rfl) fun a hF => ?_
              refine wl (eP 176 (v0 := .bool (decide (536870912 < rr))) (v := .bool true) hF (by kernel_rfl) (fun _ => by kernel_rfl) (bT hz15) fun a hF => ?_)
              refine sB 4 [(177, .bool true), (178, undef), (179, undef), (180, .bool true)] hF (by kernel_rfl) fun a hF => ?_
              refine wpList_nil ?_
              refine hK29 _ _ ?_
              refine cT hF (by kernel_rfl) (by kernel_rfl) ?_
              refine wp_seq_k fun K30 hK30 => ?_
              refine wp_region_lit ?_
              refine wl (eL 181 11 0 (v := .agg #[.int .i64 aa, .int .i64 bl]) hF hM (by kernel_rfl) rfl rfl (by kernel_rfl) (by kernel_rfl) fun a w hF hM => ?_)
              refine wl (eL 182 10 0 (v := .agg #[.int .i64 rea, .int .i64 reb]) hF hM (by kernel_rfl) rfl rfl (by kernel_rfl) (by kernel_rfl) fun a w hF hM => ?_)
              refine wl (eM 183 (v := .bool true) hF hM (by kernel_rfl) ((yld_eql (C := Mem _ _ _) [aa, bl] [rea, reb] hF rfl (by kernel_rfl) (by kernel_rfl) (by kernel_rfl) rfl (by kernel_rfl) (by kernel_rfl) (by kernel_rfl) rfl rfl).to (bT hends)) fun a w hF hM => ?_)
              refine sB 2 [(184, .bool true), (185, .int .i64 rr)] hF (by kernel_rfl) fun a hF => ?_
              refine wl (eP 186 (v0 := .bool (decide (536870912 < rr))) (v := .bool true) hF (by kernel_rfl) (fun _ => by kernel_rfl) (bT hz15) fun a hF => ?_)
              refine sB 6 [(187, .bool true), (188, undef), (189, undef), (190, .bool true), (191, .bool true), (8, .bool true)] hF (by kernel_rfl) fun a hF => ?_
              refine wpList_nil ?_
              refine hK30 _ _ ?_
              refine wp_ret ?_
              refine hR0 _ _ ?_
              refine ret_of hF hM (.tmp rfl (.nil)) ?_
              exact ⟨rfl, hM.bel⟩
            · skip
              refine wp_region_lit ?_
              refine sB 1 [(175, .int .i64 rr)] hF (by kernel_rfl) fun a hF => ?_
              refine wl (eP 176 (v0 := .bool (decide (536870912 < rr))) (v := .bool false) hF (by kernel_rfl) (fun _ => by kernel_rfl) (bF hz15) fun a hF => ?_)
              refine sB 4 [(177, .bool false), (178, .int .i64 see), (179, .bool (!decide (see = 0))), (180, .bool (!decide (see = 0)))] hF (by kernel_rfl) fun a hF => ?_
              refine wpList_nil ?_
              refine hK29 _ _ ?_
              by_cases hz16 : see = 0
              · skip
                replace hF := hF.c hF (i := 179) (v := .bool false) rfl (nT hz16)
                replace hF := hF.c hF (i := 180) (v := .bool false) rfl (nT hz16)
                refine cF hF (by kernel_rfl) (by kernel_rfl) ?_
                refine wp_skip ?_
                refine hK28 _ _ ?_
                refine wp_seq_k fun K31 hK31 => ?_
                have hmin : min rr 1073741824 = rr := by omega
                have hc2 := cst_ok (e_see.symm.trans (by omega))
                rw [← e_sst, ← e_sat, ← e_slv, hmin] at hc2
                have hls := late_step (t := rr) hslo hRA.2.1 (by omega)
                rw [hls.1, hls.2.1, hls.2.2] at hc2
                have hlast : [sat, slv] = [rr + 64 * spr, (srt * spr - 1048576) * 64] := by rw [hc2.2.1, hc2.2.2]
                refine wp_region_lit ?_
                refine wl (eL 192 11 0 (v := .agg #[.int .i64 aa, .int .i64 bl]) hF hM (by kernel_rfl) rfl rfl (by kernel_rfl) (by kernel_rfl) fun a w hF hM => ?_)
                refine wl (eL 193 10 0 (v := .agg #[.int .i64 rea, .int .i64 reb]) hF hM (by kernel_rfl) rfl rfl (by kernel_rfl) (by kernel_rfl) fun a w hF hM => ?_)
                refine wl (eM 194 (v := .bool true) hF hM (by kernel_rfl) ((yld_eql (C := Mem _ _ _) [aa, bl] [rea, reb] hF rfl (by kernel_rfl) (by kernel_rfl) (by kernel_rfl) rfl (by kernel_rfl) (by kernel_rfl) (by kernel_rfl) rfl rfl).to (bT hends)) fun a w hF hM => ?_)
                refine sB 3 [(195, .bool true), (196, .int .i64 sst), (197, .int .i64 rr)] hF (by kernel_rfl) fun a hF => ?_
                refine wl (eP 198 (v0 := .bool (decide (sst = rr))) (v := .bool true) hF (by kernel_rfl) (fun _ => by kernel_rfl) (bT (by omega)) fun a hF => ?_)
                refine sB 2 [(199, .bool true), (200, .bool true)] hF (by kernel_rfl) fun a hF => ?_
                refine wl (eL 201 14 0 (v := .agg #[.int .i64 sat, .int .i64 slv]) hF hM (by kernel_rfl) rfl rfl (by kernel_rfl) (by kernel_rfl) fun a w hF hM => ?_)
                refine sB 2 [(202, .int .i64 rr), (203, .pointer (some ⟨bb4, 1, none⟩))] hF (by kernel_rfl) fun a hF => ?_
                refine wl (eL 204 7 1 (v := .int .i64 spr) hF hM (by kernel_rfl) rfl rfl (by kernel_rfl) (by kernel_rfl) fun a w hF hM => ?_)
                refine wl (eP 205 (v0 := .int .i64 (IntKind.i64.wrap (64 * spr))) (v := .int .i64 (64 * spr)) hF (by kernel_rfl) (fun _ => by kernel_rfl) (wi (by omega)) fun a hF => ?_)
                refine wl (eP 206 (v0 := .int .i64 (IntKind.i64.wrap (rr + 64 * spr))) (v := .int .i64 (rr + 64 * spr)) hF (by kernel_rfl) (fun _ => by kernel_rfl) (wi (by omega)) fun a hF => ?_)
                refine sB 1 [(207, .pointer (some ⟨bb4, 0, none⟩))] hF (by kernel_rfl) fun a hF => ?_
                refine wl (eL 208 7 0 (v := .int .i64 srt) hF hM (by kernel_rfl) rfl rfl (by kernel_rfl) (by kernel_rfl) fun a w hF hM => ?_)
                refine sB 1 [(209, .pointer (some ⟨bb4, 1, none⟩))] hF (by kernel_rfl) fun a hF => ?_
                refine wl (eL 210 7 1 (v := .int .i64 spr) hF hM (by kernel_rfl) rfl rfl (by kernel_rfl) (by kernel_rfl) fun a w hF hM => ?_)
                have hz17 : 1 ≤ srt * spr ∧ srt * spr ≤ 1048575000 := mul_bd (1) (1048575) (1) (1000) (by omega) (by omega) (by omega) (by omega) (by decide)
                refine wl (eP 211 (v0 := .int .i64 (IntKind.i64.wrap (srt * spr))) (v := .int .i64 (srt * spr)) hF (by kernel_rfl) (fun _ => by kernel_rfl) (wi (by omega)) fun a hF => ?_)
                refine wl (eP 212 (v0 := .int .i64 (IntKind.i64.wrap (srt * spr - 1048576))) (v := .int .i64 (srt * spr - 1048576)) hF (by kernel_rfl) (fun _ => by kernel_rfl) (wi (by omega)) fun a hF => ?_)
                refine wl (eP 213 (v0 := .int .i64 (IntKind.i64.wrap ((srt * spr - 1048576) * 64))) (v := .int .i64 ((srt * spr - 1048576) * 64)) hF (by kernel_rfl) (fun _ => by kernel_rfl) (wi (by omega)) fun a hF => ?_)
                refine sB 1 [(214, .agg #[.int .i64 (rr + 64 * spr), .int .i64 ((srt * spr - 1048576) * 64)])] hF (by kernel_rfl) fun a hF => ?_
                refine wl (eM 215 (v := .bool true) hF hM (by kernel_rfl) ((yld_eql (C := Mem _ _ _) [sat, slv] [rr + 64 * spr, (srt * spr - 1048576) * 64] hF rfl (by kernel_rfl) (by kernel_rfl) (by kernel_rfl) rfl (by kernel_rfl) (by kernel_rfl) (by kernel_rfl) rfl rfl).to (bT hlast)) fun a w hF hM => ?_)
                refine sB 2 [(216, .bool true), (8, .bool true)] hF (by kernel_rfl) fun a hF => ?_
                refine wpList_nil ?_
                refine hK31 _ _ ?_
                refine wp_ret ?_
                refine hR0 _ _ ?_
                refine ret_of hF hM (.tmp rfl (.nil)) ?_
                exact ⟨rfl, hM.bel⟩
              · skip
                replace hF := hF.c hF (i := 179) (v := .bool true) rfl (nF hz16)
                replace hF := hF.c hF (i := 180) (v := .bool true) rfl (nF hz16)
                refine cT hF (by kernel_rfl) (by kernel_rfl) ?_
                refine wp_seq_k fun K32 hK32 => ?_
                have hsix : see = 6 := by rw [e_see]; exact cst_six hslo hRA.2.1 (timeB_iff.2 (by omega)) (by decide) (by decide) (by decide) (by rw [← e_see]; assumption)
                refine wp_region_lit ?_
                refine wl (eL 181 11 0 (v := .agg #[.int .i64 aa, .int .i64 bl]) hF hM (by kernel_rfl) rfl rfl (by kernel_rfl) (by kernel_rfl) fun a w hF hM => ?_)
                refine wl (eL 182 10 0 (v := .agg #[.int .i64 rea, .int .i64 reb]) hF hM (by kernel_rfl) rfl rfl (by kernel_rfl) (by kernel_rfl) fun a w hF hM => ?_)
                refine wl (eM 183 (v := .bool true) hF hM (by kernel_rfl) ((yld_eql (C := Mem _ _ _) [aa, bl] [rea, reb] hF rfl (by kernel_rfl) (by kernel_rfl) (by kernel_rfl) rfl (by kernel_rfl) (by kernel_rfl) (by kernel_rfl) rfl rfl).to (bT hends)) fun a w hF hM => ?_)
                refine sB 2 [(184, .bool true), (185, .int .i64 rr)] hF (by kernel_rfl) fun a hF => ?_
                refine wl (eP 186 (v0 := .bool (decide (536870912 < rr))) (v := .bool false) hF (by kernel_rfl) (fun _ => by kernel_rfl) (bF hz15) fun a hF => ?_)
                refine sB 2 [(187, .bool false), (188, .int .i64 see)] hF (by kernel_rfl) fun a hF => ?_
                refine wl (eP 189 (v0 := .bool (decide (see = 6))) (v := .bool true) hF (by kernel_rfl) (fun _ => by kernel_rfl) (bT (by omega)) fun a hF => ?_)
                refine sB 3 [(190, .bool true), (191, .bool true), (8, .bool true)] hF (by kernel_rfl) fun a hF => ?_
                refine wpList_nil ?_
                refine hK32 _ _ ?_
                refine wp_ret ?_
                refine hR0 _ _ ?_
                refine ret_of hF hM (.tmp rfl (.nil)) ?_
                exact ⟨rfl, hM.bel⟩
      · skip
        refine wp_region_lit ?_
        refine wl (eL 58 7 0 (v := .agg #[.int .i64 srt, .int .i64 spr]) hF hM (by kernel_rfl) rfl rfl (by kernel_rfl) (by kernel_rfl) fun a w hF hM => ?_)
        refine sB 2 [(59, .slice AA3 lcr.length cc3), (60, .slice G1 ff.length c1)] hF (by kernel_rfl) fun a hF => ?_
        refine wl (eM 61 (v := .tuple #[.slice none 0 0, .agg #[.int .i64 0, .int .i64 0], .int .i64 (runE srt spr lcr ff)]) hF hM (by kernel_rfl) (yld_call (f := 12) (args := #[.agg #[.int .i64 srt, .int .i64 spr], .slice AA3 lcr.length cc3, .slice G1 ff.length c1]) hF (by kernel_rfl) (fun _ => by kernel_rfl) (fun w hM => crRun_errE hz3 (crRun_w srt spr AA3 lcr cc3 G1 ff c1 w (ro_of_own (hM.ok 6 _ rfl)) (ro_of_own (hM.ok 8 _ rfl)) (by omega) (by omega)))) fun a w hF hM => ?_)
        refine sB 4 [(57, .tuple #[.slice none 0 0, .agg #[.int .i64 0, .int .i64 0], .int .i64 (runE srt spr lcr ff)]), (62, .slice none 0 0), (63, .agg #[.int .i64 0, .int .i64 0]), (64, .int .i64 (runE srt spr lcr ff))] hF (by kernel_rfl) fun a hF => ?_
        refine wl (eN 14 15 (t := 40) (fun b => .pointer (some ⟨b, 0, none⟩)) #[.int .i64 0, .int .i64 0] hF hM (by kernel_rfl) (fun _ => by kernel_rfl) fun bb11 a w hF hM => ?_)
        refine sB 1 [(13, .slice none 0 0)] hF (by kernel_rfl) fun a hF => ?_
        refine wl (sStore (i := 15) (off := 0) (cs' := #[.int .i64 0, .int .i64 0]) hF hM (by kernel_rfl) rfl rfl (by kernel_rfl) (by kernel_rfl) rfl (by kernel_rfl) fun w hM => ?_)
        refine sB 1 [(15, .int .i64 (runE srt spr lcr ff))] hF (by kernel_rfl) fun a hF => ?_
        refine wpList_nil ?_
        refine hK7 _ _ ?_
        refine wp_seq_k fun K33 hK33 => ?_
        refine wp_seq_k fun K34 hK34 => ?_
        refine wp_region_lit ?_
        refine sB 1 [(65, .int .i64 (runE srt spr lcr ff))] hF (by kernel_rfl) fun a hF => ?_
        refine wl (eP 66 (v0 := .bool (!decide (runE srt spr lcr ff = 0))) (v := .bool true) hF (by kernel_rfl) (fun _ => by kernel_rfl) (nF hz3) fun a hF => ?_)
        refine wpList_nil ?_
        refine hK34 _ _ ?_
        refine cT hF (by kernel_rfl) (by kernel_rfl) ?_
        refine wp_seq_k fun K35 hK35 => ?_
        have hsix : runE srt spr lcr ff = 6 := runE_six hslo tr_lcr (by omega) hargs (by assumption)
        refine wp_region_lit ?_
        refine sB 1 [(67, .int .i64 (runE srt spr lcr ff))] hF (by kernel_rfl) fun a hF => ?_
        refine wl (eP 68 (v0 := .bool (decide (runE srt spr lcr ff = 6))) (v := .bool true) hF (by kernel_rfl) (fun _ => by kernel_rfl) (bT (by omega)) fun a hF => ?_)
        refine sB 3 [(69, .bool true), (70, .slice none 0 0), (71, .int .i64 0)] hF (by kernel_rfl) fun a hF => ?_
        refine wl (eP 72 (v0 := .bool (decide (0 = 0))) (v := .bool true) hF (by kernel_rfl) (fun _ => by kernel_rfl) (bT (by omega)) fun a hF => ?_)
        refine sB 2 [(73, .bool true), (74, .bool true)] hF (by kernel_rfl) fun a hF => ?_
        refine wl (eL 75 15 0 (v := .agg #[.int .i64 0, .int .i64 0]) hF hM (by kernel_rfl) rfl rfl (by kernel_rfl) (by kernel_rfl) fun a w hF hM => ?_)
        refine sB 1 [(76, .agg #[.int .i64 0, .int .i64 0])] hF (by kernel_rfl) fun a hF => ?_
        refine wl (eM 77 (v := .bool true) hF hM (by kernel_rfl) ((yld_eql (C := Mem _ _ _) [0, 0] [0, 0] hF rfl (by kernel_rfl) (by kernel_rfl) (by kernel_rfl) rfl (by kernel_rfl) (by kernel_rfl) (by kernel_rfl) rfl rfl).to (bT (by decide))) fun a w hF hM => ?_)
        refine sB 2 [(78, .bool true), (8, .bool true)] hF (by kernel_rfl) fun a hF => ?_
        refine wpList_nil ?_
        refine hK35 _ _ ?_
        refine wp_ret ?_
        refine hR0 _ _ ?_
        refine ret_of hF hM (.tmp rfl (.nil)) ?_
        exact ⟨rfl, hM.bel⟩
    refine wp_seq_k fun K36 hK36 => ?_
    refine wp_region_lit ?_
    refine sB 1 [(12, .int .i64 0)] hF (by kernel_rfl) fun a hF => ?_
    refine wpList_nil ?_
    refine hK36 _ _ ?_
    refine wp_block ?_
    replace hM := hM.addNil 8 3 1
    refine wp_loop_k (G := Nat × List Int × Option Addr × Nat) (fun gg a w => Fr 217 [(11, some (.slice gg.2.2.1 gg.1 gg.2.2.2)), (12, some (.int .i64 (gg.1 : Int))), (2, some (.slice Fa free.length cf)), (3, some (.int .u16 lt)), (8, some (.bool false)), (9, some (.pointer (some ⟨bb4, 0, none⟩))), (10, some (.slice AA3 lcr.length cc3))] a ∧ Mem w0.heap.size w0 [(1, some (.ro Ga (gaps.map (Value.int .u16)))), (2, some (.ro Sa (sizes.map (Value.int .u16)))), (3, some (.ro Fa (free.map (Value.int .u16)))), (6, some (.own (.slice AA3 lcr.length cc3) 57 2 lcr.length (flat2 lcr))), (7, some (.row bb4 23 #[.int .i64 srt, .int .i64 spr])), (8, some (.own (.slice gg.2.2.1 gg.1 gg.2.2.2) 3 1 gg.1 (gg.2.1.map (Value.int .i64))))] w ∧ ((gg.1 : Int) ≤ (free.length : Int)) ∧ ((gg.1 : Int) ≤ (lcr.length : Int)) ∧ ((gg.2.1.length : Int) = (gg.1 : Int)) ∧ (gg.2.1.all timeB = true)) (fun gg => lcr.length - gg.1) (0, [], none, 0) ?_ ?_
    · refine ⟨((((((((Fr.nil hF).c hF (i := 10) rfl rfl).c hF (i := 9) rfl rfl).c hF (i := 8) rfl rfl).c hF (i := 3) rfl rfl).c hF (i := 2) rfl rfl).c hF (i := 12) rfl (vi (show (0 : Int) = (0 : Int) from by omega))).c hF (i := 11) rfl rfl), (hM.sub ((((((Sub.nil.c (k := 8) rfl rfl).c (k := 7) rfl rfl).c (k := 6) rfl rfl).c (k := 3) rfl rfl).c (k := 2) rfl rfl).c (k := 1) rfl rfl)), (show (0 : Int) ≤ (free.length : Int) from by omega), (show (0 : Int) ≤ (lcr.length : Int) from by omega), (show (([]).length : Int) = (0 : Int) from by rfl), (show ([]).all timeB = true from by rfl)⟩
    · intro gg a w hI
      intro K37 hK37
      obtain ⟨j, ff, G1, c1⟩ := gg
      try dsimp only at hI hK37
      obtain ⟨hF, hM, hz18, hz19, hz20, hz21⟩ := hI
      refine wp_seq_k fun K38 hK38 => ?_
      refine wp_seq_k fun K39 hK39 => ?_
      by_cases hz22 : (j : Int) < (free.length : Int)
      · skip
        refine wp_region_lit ?_
        refine sB 3 [(36, .int .i64 (j : Int)), (37, .slice Fa free.length cf), (38, .int .i64 (free.length : Int))] hF (by kernel_rfl) fun a hF => ?_
        refine wl (eP 39 (v0 := .bool (decide ((j : Int) < (free.length : Int)))) (v := .bool true) hF (by kernel_rfl) (fun _ => by kernel_rfl) (bT hz22) fun a hF => ?_)
        refine sB 6 [(40, .bool true), (41, .int .i64 (j : Int)), (42, .slice AA3 lcr.length cc3), (43, .int .i64 (lcr.length : Int)), (44, .bool (decide ((j : Int) < (lcr.length : Int)))), (45, .bool (decide ((j : Int) < (lcr.length : Int))))] hF (by kernel_rfl) fun a hF => ?_
        refine wpList_nil ?_
        refine hK39 _ _ ?_
        by_cases hz23 : (j : Int) < (lcr.length : Int)
        · skip
          replace hF := hF.c hF (i := 44) (v := .bool true) rfl (bT hz23)
          replace hF := hF.c hF (i := 45) (v := .bool true) rfl (bT hz23)
          refine cT hF (by kernel_rfl) (by kernel_rfl) ?_
          refine wp_skip ?_
          refine hK38 _ _ ?_
          refine wp_seq_k fun K40 hK40 => ?_
          refine wp_block ?_
          refine wp_region_lit ?_
          refine sB 3 [(48, .slice G1 j c1), (49, .slice Fa free.length cf), (50, .int .i64 (j : Int))] hF (by kernel_rfl) fun a hF => ?_
          refine wl (eM 51 (v := .pointer (some (ea Fa (j)))) hF hM (by kernel_rfl) (yld_ix (kd := .i64) (e := 32) (len := free.length) (cap := cf) (i := (j : Int)) (size := 1) (A := Fa) hF rfl (by kernel_rfl) (by kernel_rfl) (by kernel_rfl) (by kernel_rfl) (by kernel_rfl) (roK 3 rfl) (by omega) (by omega) (by rw [List.length_map]; omega)) fun a w hF hM => ?_)
          refine wl (eM 52 (v := .int .u16 (nt free j)) hF hM (by kernel_rfl) (yld_ro1 (A := Fa) (j := j) hF rfl (by kernel_rfl) (by kernel_rfl) (roK 3 rfl) (by kernel_rfl) (nt_at (by omega))) fun a w hF hM => ?_)
          have := all16_nt hf j
          refine wl (eP 53 (v0 := .int .i64 (IntKind.i64.wrap (nt free j))) (v := .int .i64 (nt free j)) hF (by kernel_rfl) (fun _ => by kernel_rfl) (vi (IntWalk.i64_in _ (by omega))) fun a hF => ?_)
          refine wl (eP 54 (v0 := .int .i64 (IntKind.i64.wrap (nt free j * 16))) (v := .int .i64 (nt free j * 16)) hF (by kernel_rfl) (fun _ => by kernel_rfl) (wi (by omega)) fun a hF => ?_)
          refine wl (eN 55 16 (t := 3) (fun b => .slice (some ⟨b, 0, none⟩) 1 1) #[.int .i64 (nt free j * 16)] hF hM (by kernel_rfl) (fun _ => by kernel_rfl) fun bb12 a w hF hM => ?_)
          refine wl (sApp 56 8 (e := 3) (size := 1) (bytes := 8) (z := .int .i64 0) (m := 1) (c := 1) (l := j) (cap := c1) (A := G1) (news := [.int .i64 (nt free j * 16)]) ((ff ++ [nt free j * 16]).map (Value.int .i64)) hF hM (by kernel_rfl) rfl (by kernel_rfl) (by kernel_rfl) (by kernel_rfl) rfl rfl rfl rfl (roR 16 rfl) (by simp [Value.oneCell']) (by omega) (by decide) (map_snoc' _ _ _) fun AA13 cc13 a w hF hM => ?_)
          refine sB 1 [(11, .slice AA13 (j + 1) cc13)] hF (by kernel_rfl) fun a hF => ?_
          refine wpList_nil ?_
          refine hK40 _ _ ?_
          refine wp_region_lit ?_
          refine sB 1 [(46, .int .i64 (j : Int))] hF (by kernel_rfl) fun a hF => ?_
          refine wl (eP 47 (v0 := .int .i64 (IntKind.i64.wrap ((j : Int) + 1))) (v := .int .i64 ((j : Int) + 1)) hF (by kernel_rfl) (fun _ => by kernel_rfl) (wi (by omega)) fun a hF => ?_)
          refine sB 1 [(12, .int .i64 ((j : Int) + 1))] hF (by kernel_rfl) fun a hF => ?_
          refine wpList_nil ?_
          have hbj := all16_nt hf j
          refine hK37 _ _ ⟨(j + 1, ff ++ [nt free j * 16], AA13, cc13), ⟨((((((((Fr.nil hF).c hF (i := 10) rfl rfl).c hF (i := 9) rfl rfl).c hF (i := 8) rfl rfl).c hF (i := 3) rfl rfl).c hF (i := 2) rfl rfl).c hF (i := 12) rfl (vi (show ((j : Int) + 1 : Int) = ((j + 1) : Int) from by omega))).c hF (i := 11) rfl rfl), (hM.sub ((((((Sub.nil.c (k := 8) rfl rfl).c (k := 7) rfl rfl).c (k := 6) rfl rfl).c (k := 3) rfl rfl).c (k := 2) rfl rfl).c (k := 1) rfl rfl)), (show ((j + 1) : Int) ≤ (free.length : Int) from by omega), (show ((j + 1) : Int) ≤ (lcr.length : Int) from by omega), (show ((ff ++ [nt free j * 16]).length : Int) = ((j + 1) : Int) from by simp; omega), (show (ff ++ [nt free j * 16]).all timeB = true from by exact all_snoc (by assumption) (by omega) (by omega))⟩, (show lcr.length - (j + 1) < lcr.length - j from by omega)⟩
        · skip
          replace hF := hF.c hF (i := 44) (v := .bool false) rfl (bF hz23)
          replace hF := hF.c hF (i := 45) (v := .bool false) rfl (bF hz23)
          refine cF hF (by kernel_rfl) (by kernel_rfl) ?_
          refine wp_exit ?_
          exact hJ6 ff G1 c1 _ _ ((((((Fr.nil hF).c hF (i := 10) rfl rfl).c hF (i := 9) rfl rfl).c hF (i := 8) rfl rfl).c hF (i := 3) rfl rfl).c hF (i := 11) rfl (by simp only [Value.slice.injEq, true_and, and_true]; omega)) (hM.sub ((((((Sub.nil.c (k := 8) rfl (by rw [show j = ff.length from by omega])).c (k := 7) rfl rfl).c (k := 6) rfl rfl).c (k := 3) rfl rfl).c (k := 2) rfl rfl).c (k := 1) rfl rfl)) (show (ff.length : Int) ≤ (lcr.length : Int) from by omega) (show ff.all timeB = true from by assumption)
      · skip
        refine wp_region_lit ?_
        refine sB 3 [(36, .int .i64 (j : Int)), (37, .slice Fa free.length cf), (38, .int .i64 (free.length : Int))] hF (by kernel_rfl) fun a hF => ?_
        refine wl (eP 39 (v0 := .bool (decide ((j : Int) < (free.length : Int)))) (v := .bool false) hF (by kernel_rfl) (fun _ => by kernel_rfl) (bF hz22) fun a hF => ?_)
        refine sB 6 [(40, .bool false), (41, undef), (42, undef), (43, undef), (44, undef), (45, .bool false)] hF (by kernel_rfl) fun a hF => ?_
        refine wpList_nil ?_
        refine hK39 _ _ ?_
        refine cF hF (by kernel_rfl) (by kernel_rfl) ?_
        refine wp_exit ?_
        exact hJ6 ff G1 c1 _ _ ((((((Fr.nil hF).c hF (i := 10) rfl rfl).c hF (i := 9) rfl rfl).c hF (i := 8) rfl rfl).c hF (i := 3) rfl rfl).c hF (i := 11) rfl (by simp only [Value.slice.injEq, true_and, and_true]; omega)) (hM.sub ((((((Sub.nil.c (k := 8) rfl (by rw [show j = ff.length from by omega])).c (k := 7) rfl rfl).c (k := 6) rfl rfl).c (k := 3) rfl rfl).c (k := 2) rfl rfl).c (k := 1) rfl rfl)) (show (ff.length : Int) ≤ (lcr.length : Int) from by omega) (show ff.all timeB = true from by assumption)

end Go.Proofs.Ytjepnlebmgkomaa
