/-
  The walk of CreditSmooth.
-/
import Derived.Test.YtjepnlebmgkomaaCrF
import Derived.Test.YtjepnlebmgkomaaSmoothPlain
namespace Go.Proofs.Ytjepnlebmgkomaa
open Go.RowKit
set_option linter.unusedVariables false
set_option linter.unusedSimpArgs false

set_option maxRecDepth 100000 in
set_option maxHeartbeats 4000000 in
theorem creditSmooth_walk (na nb : Int) (bu ra : Int) (Ga : Option Addr) (gaps : List Int) (cg : Nat) (Sa : Option Addr) (sizes : List Int) (cs : Nat) (w0 : World) (hGa : Ro w0 Ga (gaps.map (Value.int .u16))) (hSa : Ro w0 Sa (sizes.map (Value.int .u16))) (hg : All16 gaps) (hs : All16 sizes) (hmg : gaps.length ≤ 9223372036854775807) (hms : sizes.length ≤ 9223372036854775807) (h : 0 ≤ na ∧ na < 4294967296 ∧ 0 ≤ nb ∧ nb < 4294967296) :
    Calls Try.prog 8 #[.agg #[.int .u32 na, .int .u32 nb], .agg #[.int .u32 bu, .int .u32 ra, .slice Ga gaps.length cg, .slice Sa sizes.length cs]] w0 (Ret w0 (.bool true)) := by
  refine enterK 84 Try.func8 rfl rfl rfl ?_
  intro a hF Q0 hR0 hN0
  have hM := Mem.start w0
  replace hM := hM.addOld 1 hGa (Nat.le_refl _)
  replace hM := hM.addOld 2 hSa (Nat.le_refl _)
  refine wp_seq_k fun K1 hK1 => ?_
  refine wp_region_lit ?_
  refine wl (eN 2 3 (t := 30) (fun b => .pointer (some ⟨b, 0, none⟩)) #[.int .u32 na, .int .u32 nb] hF hM (by kernel_rfl) (fun _ => by kernel_rfl) fun bb1 a w hF hM => ?_)
  refine wl (eN 3 4 (t := 28) (fun b => .pointer (some ⟨b, 0, none⟩)) #[.int .u32 bu, .int .u32 ra, .slice Ga gaps.length cg, .slice Sa sizes.length cs] hF hM (by kernel_rfl) (fun _ => by kernel_rfl) fun bb2 a w hF hM => ?_)
  refine sB 1 [(4, .bool false)] hF (by kernel_rfl) fun a hF => ?_
  refine wpList_nil ?_
  refine hK1 _ _ ?_
  refine wp_seq_k fun K2 hK2 => ?_
  refine wp_seq_k fun K3 hK3 => ?_
  refine wp_region_lit ?_
  refine wl (eM 15 (v := .bool true) hF hM (by kernel_rfl) (yld_call (f := 15) (args := #[]) hF (by kernel_rfl) (fun _ => by kernel_rfl) (fun w hM => works_w w)) fun a w hF hM => ?_)
  refine sB 1 [(16, .bool false)] hF (by kernel_rfl) fun a hF => ?_
  refine wpList_nil ?_
  refine hK3 _ _ ?_
  refine cF hF (by kernel_rfl) (by kernel_rfl) ?_
  refine wp_skip ?_
  refine hK2 _ _ ?_
  refine wp_seq_k fun K4 hK4 => ?_
  obtain ⟨srt, e_srt⟩ : ∃ x : Int, x = ofR na (nb % 65536) := ⟨_, rfl⟩
  obtain ⟨spr, e_spr⟩ : ∃ x : Int, x = ofP (nb % 65536) := ⟨_, rfl⟩
  have hslo : slopeE srt spr = 0 := by rw [e_srt, e_spr]; exact of_slope (by omega) (by omega)
  have := slopeE_ok hslo
  obtain ⟨lcr, e_lcr⟩ : ∃ x : List (Int × Int), x = crTr gaps sizes := ⟨_, rfl⟩
  have tr_lcr : trE lcr = 0 := by rw [e_lcr]; exact crTr_trE hg hs
  have le_lcr : lcr.length ≤ 30 := by rw [e_lcr]; exact crTr_le _ _
  have pr_lcr : ∀ k, k < lcr.length → 0 ≤ (pr lcr k).1 ∧ (pr lcr k).1 ≤ 1966050 ∧ 1 ≤ (pr lcr k).2 ∧ (pr lcr k).2 ≤ 1542 := by rw [e_lcr]; exact fun k hk => crTr_pr hg hs hk
  refine rF (by kernel_rfl) (by kernel_rfl) (fun S a w => ∃ AA3 : Option Addr, ∃ cc3 : Nat, ∃ bb4 : Nat, Fr 84 [(2, some (.pointer (some ⟨bb1, 0, none⟩))), (3, some (.pointer (some ⟨bb2, 0, none⟩))), (4, some (.bool false)), (5, (cond (S.getD 8 false) (some (.pointer (some ⟨bb4, 0, none⟩))) none)), (6, (cond (S.getD 10 false) (some (.slice AA3 lcr.length cc3)) none)), (17, (cond (S.getD 0 false) (some (.pointer (some ⟨bb1, 0, none⟩))) none)), (18, (cond (S.getD 1 false) (some (.int .u32 na)) none)), (19, (cond (S.getD 2 false) (some (.pointer (some ⟨bb1, 1, none⟩))) none)), (20, (cond (S.getD 3 false) (some (.int .u32 nb)) none)), (21, (cond (S.getD 4 false) (some (.int .u16 (nb % 65536))) none)), (22, (cond (S.getD 5 false) (some (.agg #[.int .i64 srt, .int .i64 spr])) none)), (23, (cond (S.getD 6 false) (some (.agg #[.int .u32 bu, .int .u32 ra, .slice Ga gaps.length cg, .slice Sa sizes.length cs])) none)), (24, (cond (S.getD 7 false) (some (.slice AA3 lcr.length cc3)) none))] a ∧ Mem w0.heap.size w0 [(1, some (.ro Ga (gaps.map (Value.int .u16)))), (2, some (.ro Sa (sizes.map (Value.int .u16)))), (3, some (.row bb1 30 #[.int .u32 na, .int .u32 nb])), (4, some (.row bb2 28 #[.int .u32 bu, .int .u32 ra, .slice Ga gaps.length cg, .slice Sa sizes.length cs])), (5, (cond (S.getD 7 false) (some (.own (.slice AA3 lcr.length cc3) 57 2 lcr.length (flat2 lcr))) none)), (6, (cond (S.getD 9 false) (some (.row bb4 23 #[.int .i64 srt, .int .i64 spr])) (cond (S.getD 8 false) (some (.row bb4 23 #[.int .i64 0, .int .i64 0])) none)))] w) ?_ ?_ ?_
  · exact ⟨none, 0, 0, ((((((((((((((Fr.nil hF).co hF (i := 24) (by kernel_rfl)).co hF (i := 23) (by kernel_rfl)).co hF (i := 22) (by kernel_rfl)).co hF (i := 21) (by kernel_rfl)).co hF (i := 20) (by kernel_rfl)).co hF (i := 19) (by kernel_rfl)).co hF (i := 18) (by kernel_rfl)).co hF (i := 17) (by kernel_rfl)).co hF (i := 6) (by kernel_rfl)).co hF (i := 5) (by kernel_rfl)).co hF (i := 4) (by kernel_rfl)).co hF (i := 3) (by kernel_rfl)).co hF (i := 2) (by kernel_rfl)), hM.drew.sub ((((((Sub.nil.co (k := 6) (by kernel_rfl)).co (k := 5) (by kernel_rfl)).co (k := 4) (by kernel_rfl)).co (k := 3) (by kernel_rfl)).co (k := 2) (by kernel_rfl)).co (k := 1) (by kernel_rfl))⟩
  · refine stC ?_ (stC ?_ (stC ?_ (stC ?_ (stC ?_ (stC ?_ (stC ?_ (stC ?_ (stC ?_ (stC ?_ (stC ?_ (trivial)))))))))))
    · intro s0 s1 s2 s3 s4 s5 s6 s7 s8 s9 s10 hc hi hp a w hS
      obtain rfl : s0 = false := hi
      obtain ⟨AA3, cc3, bb4, hF, hM⟩ := hS
      refine eP 17 (v0 := .pointer (some ⟨bb1, 0, none⟩)) (v := .pointer (some ⟨bb1, 0, none⟩)) hF (by kernel_rfl) (fun _ => by kernel_rfl) rfl fun a hF => ?_
      exact ⟨AA3, cc3, bb4, ((hF.repl 5 (by kernel_rfl)).cast (by kernel_rfl)), (hM.cast (by kernel_rfl))⟩
    · intro s0 s1 s2 s3 s4 s5 s6 s7 s8 s9 s10 hc hi hp a w hS
      obtain rfl : s1 = false := hi
      obtain rfl : s0 = true := hp 0 (by kernel_rfl)
      obtain ⟨AA3, cc3, bb4, hF, hM⟩ := hS
      refine eL 18 3 0 (v := .int .u32 na) hF hM (by kernel_rfl) rfl rfl (by kernel_rfl) (by kernel_rfl) fun a w hF hM => ?_
      exact ⟨AA3, cc3, bb4, ((hF.repl 6 (by kernel_rfl)).cast (by kernel_rfl)), (hM.cast (by kernel_rfl))⟩
    · intro s0 s1 s2 s3 s4 s5 s6 s7 s8 s9 s10 hc hi hp a w hS
      obtain rfl : s2 = false := hi
      obtain ⟨AA3, cc3, bb4, hF, hM⟩ := hS
      refine eP 19 (v0 := .pointer (some ⟨bb1, 1, none⟩)) (v := .pointer (some ⟨bb1, 1, none⟩)) hF (by kernel_rfl) (fun _ => by kernel_rfl) rfl fun a hF => ?_
      exact ⟨AA3, cc3, bb4, ((hF.repl 7 (by kernel_rfl)).cast (by kernel_rfl)), (hM.cast (by kernel_rfl))⟩
    · intro s0 s1 s2 s3 s4 s5 s6 s7 s8 s9 s10 hc hi hp a w hS
      obtain rfl : s3 = false := hi
      obtain rfl : s2 = true := hp 2 (by kernel_rfl)
      obtain ⟨AA3, cc3, bb4, hF, hM⟩ := hS
      refine eL 20 3 1 (v := .int .u32 nb) hF hM (by kernel_rfl) rfl rfl (by kernel_rfl) (by kernel_rfl) fun a w hF hM => ?_
      exact ⟨AA3, cc3, bb4, ((hF.repl 8 (by kernel_rfl)).cast (by kernel_rfl)), (hM.cast (by kernel_rfl))⟩
    · intro s0 s1 s2 s3 s4 s5 s6 s7 s8 s9 s10 hc hi hp a w hS
      obtain rfl : s4 = false := hi
      obtain rfl : s3 = true := hp 3 (by kernel_rfl)
      obtain ⟨AA3, cc3, bb4, hF, hM⟩ := hS
      refine eP 21 (v0 := .int .u16 (IntKind.u16.wrap nb)) (v := .int .u16 (nb % 65536)) hF (by kernel_rfl) (fun _ => by kernel_rfl) (vi (u16_wrap _)) fun a hF => ?_
      exact ⟨AA3, cc3, bb4, ((hF.repl 9 (by kernel_rfl)).cast (by kernel_rfl)), (hM.cast (by kernel_rfl))⟩
    · intro s0 s1 s2 s3 s4 s5 s6 s7 s8 s9 s10 hc hi hp a w hS
      obtain rfl : s5 = false := hi
      obtain rfl : s4 = true := hp 4 (by kernel_rfl)
      obtain rfl : s1 = true := hp 1 (by kernel_rfl)
      obtain ⟨AA3, cc3, bb4, hF, hM⟩ := hS
      refine eM 22 (v := .agg #[.int .i64 srt, .int .i64 spr]) hF hM (by kernel_rfl) (yld_call (f := 9) (args := #[.int .u32 na, .int .u16 (nb % 65536)]) hF (by kernel_rfl) (fun _ => by kernel_rfl) (fun w hM => by rw [e_srt, e_spr]; exact crOf_w na (nb % 65536) w (by omega))) fun a w hF hM => ?_
      exact ⟨AA3, cc3, bb4, ((hF.repl 10 (by kernel_rfl)).cast (by kernel_rfl)), (hM.cast (by kernel_rfl))⟩
    · intro s0 s1 s2 s3 s4 s5 s6 s7 s8 s9 s10 hc hi hp a w hS
      obtain rfl : s6 = false := hi
      obtain ⟨AA3, cc3, bb4, hF, hM⟩ := hS
      refine eL 23 4 0 (v := .agg #[.int .u32 bu, .int .u32 ra, .slice Ga gaps.length cg, .slice Sa sizes.length cs]) hF hM (by kernel_rfl) rfl rfl (by kernel_rfl) (by kernel_rfl) fun a w hF hM => ?_
      exact ⟨AA3, cc3, bb4, ((hF.repl 11 (by kernel_rfl)).cast (by kernel_rfl)), (hM.cast (by kernel_rfl))⟩
    · intro s0 s1 s2 s3 s4 s5 s6 s7 s8 s9 s10 hc hi hp a w hS
      obtain rfl : s7 = false := hi
      obtain rfl : s6 = true := hp 6 (by kernel_rfl)
      obtain rfl : s10 = false := hc.f 10 7 (by kernel_rfl) rfl
      obtain ⟨AA3, cc3, bb4, hF, hM⟩ := hS
      refine sOwn 5 (f := 11) (args := #[.agg #[.int .u32 bu, .int .u32 ra, .slice Ga gaps.length cg, .slice Sa sizes.length cs]]) (mk := fun v => v) (e := 57) (size := 2) (m := lcr.length) (xs := (flat2 lcr)) hF hM (by kernel_rfl) rfl (by decide) (by kernel_rfl) (fun _ => by kernel_rfl) (by rw [e_lcr]; exact crTrace_w bu ra Ga gaps cg Sa sizes cs w (hM.ok 1 _ rfl) (hM.ok 2 _ rfl) hg hs (by omega) (by omega)) fun AA3 cc3 a w hF hM => ?_
      exact ⟨AA3, cc3, bb4, ((hF.repl 12 (by kernel_rfl)).cast (by kernel_rfl)), ((hM.repl 4 (by kernel_rfl)).cast (by kernel_rfl))⟩
    · intro s0 s1 s2 s3 s4 s5 s6 s7 s8 s9 s10 hc hi hp a w hS
      obtain rfl : s8 = false := hi
      obtain rfl : s9 = false := hc.f 9 8 (by kernel_rfl) rfl
      obtain ⟨AA3, cc3, bb4, hF, hM⟩ := hS
      refine eN 5 6 (t := 23) (fun b => .pointer (some ⟨b, 0, none⟩)) #[.int .i64 0, .int .i64 0] hF hM (by kernel_rfl) (fun _ => by kernel_rfl) fun bb4 a w hF hM => ?_
      exact ⟨AA3, cc3, bb4, ((hF.repl 3 (by kernel_rfl)).cast (by kernel_rfl)), ((hM.repl 5 (by kernel_rfl)).cast (by kernel_rfl))⟩
    · intro s0 s1 s2 s3 s4 s5 s6 s7 s8 s9 s10 hc hi hp a w hS
      obtain rfl : s9 = false := hi
      obtain rfl : s8 = true := hp 8 (by kernel_rfl)
      obtain rfl : s5 = true := hp 5 (by kernel_rfl)
      obtain ⟨AA3, cc3, bb4, hF, hM⟩ := hS
      refine sStore (i := 6) (off := 0) (cs' := #[.int .i64 srt, .int .i64 spr]) hF hM (by kernel_rfl) rfl rfl (by kernel_rfl) (by kernel_rfl) rfl (by kernel_rfl) fun w hM => ?_
      exact ⟨AA3, cc3, bb4, (hF.cast (by kernel_rfl)), ((hM.repl 5 (by kernel_rfl)).cast (by kernel_rfl))⟩
    · intro s0 s1 s2 s3 s4 s5 s6 s7 s8 s9 s10 hc hi hp a w hS
      obtain rfl : s10 = false := hi
      obtain rfl : s7 = true := hp 7 (by kernel_rfl)
      obtain ⟨AA3, cc3, bb4, hF, hM⟩ := hS
      refine eP 6 (v0 := .slice AA3 lcr.length cc3) (v := .slice AA3 lcr.length cc3) hF (by kernel_rfl) (fun _ => by kernel_rfl) rfl fun a hF => ?_
      exact ⟨AA3, cc3, bb4, ((hF.repl 4 (by kernel_rfl)).cast (by kernel_rfl)), (hM.cast (by kernel_rfl))⟩
  · intro a w hS
    obtain ⟨AA3, cc3, bb4, hF, hM⟩ := hS
    replace hF : Fr 84 [(2, some (.pointer (some ⟨bb1, 0, none⟩))), (3, some (.pointer (some ⟨bb2, 0, none⟩))), (4, some (.bool false)), (5, some (.pointer (some ⟨bb4, 0, none⟩))), (6, some (.slice AA3 lcr.length cc3)), (17, some (.pointer (some ⟨bb1, 0, none⟩))), (18, some (.int .u32 na)), (19, some (.pointer (some ⟨bb1, 1, none⟩))), (20, some (.int .u32 nb)), (21, some (.int .u16 (nb % 65536))), (22, some (.agg #[.int .i64 srt, .int .i64 spr])), (23, some (.agg #[.int .u32 bu, .int .u32 ra, .slice Ga gaps.length cg, .slice Sa sizes.length cs])), (24, some (.slice AA3 lcr.length cc3))] a := hF.cast (by kernel_rfl)
    replace hM : Mem w0.heap.size w0 [(1, some (.ro Ga (gaps.map (Value.int .u16)))), (2, some (.ro Sa (sizes.map (Value.int .u16)))), (3, some (.row bb1 30 #[.int .u32 na, .int .u32 nb])), (4, some (.row bb2 28 #[.int .u32 bu, .int .u32 ra, .slice Ga gaps.length cg, .slice Sa sizes.length cs])), (5, some (.own (.slice AA3 lcr.length cc3) 57 2 lcr.length (flat2 lcr))), (6, some (.row bb4 23 #[.int .i64 srt, .int .i64 spr]))] w := hM.cast (by kernel_rfl)
    refine hK4 _ _ ?_
    refine wp_seq_k fun K5 hK5 => ?_
    by_cases hz1 : runE srt spr lcr ([] : List Int) = 0
    · skip
      refine wp_region_lit ?_
      refine wl (eL 26 6 0 (v := .agg #[.int .i64 srt, .int .i64 spr]) hF hM (by kernel_rfl) rfl rfl (by kernel_rfl) (by kernel_rfl) fun a w hF hM => ?_)
      refine sB 1 [(27, .slice AA3 lcr.length cc3)] hF (by kernel_rfl) fun a hF => ?_
      obtain ⟨rst, rea, reb, hrun⟩ := runE_ok hz1
      refine wl (sOwn 7 (f := 12) (args := #[.agg #[.int .i64 srt, .int .i64 spr], .slice AA3 lcr.length cc3, .slice none 0 0]) (mk := fun v => .tuple #[v, .agg #[.int .i64 rea, .int .i64 reb], .int .i64 0]) (e := 3) (size := 1) (m := rst.length) (xs := (rst.map (Value.int .i64))) hF hM (by kernel_rfl) rfl (by decide) (by kernel_rfl) (fun _ => by kernel_rfl) (crRun_ok hrun (crRun_w srt spr AA3 lcr cc3 none ([] : List Int) 0 w (ro_of_own (hM.ok 5 _ rfl)) Ro.nil (by simp) (by omega))) fun AA5 cc5 a w hF hM => ?_)
      refine sB 4 [(25, .tuple #[.slice AA5 rst.length cc5, .agg #[.int .i64 rea, .int .i64 reb], .int .i64 0]), (29, .slice AA5 rst.length cc5), (30, .agg #[.int .i64 rea, .int .i64 reb]), (31, .int .i64 0)] hF (by kernel_rfl) fun a hF => ?_
      refine wl (eN 8 8 (t := 40) (fun b => .pointer (some ⟨b, 0, none⟩)) #[.int .i64 0, .int .i64 0] hF hM (by kernel_rfl) (fun _ => by kernel_rfl) fun bb6 a w hF hM => ?_)
      refine sB 1 [(7, .slice AA5 rst.length cc5)] hF (by kernel_rfl) fun a hF => ?_
      refine wl (sStore (i := 8) (off := 0) (cs' := #[.int .i64 rea, .int .i64 reb]) hF hM (by kernel_rfl) rfl rfl (by kernel_rfl) (by kernel_rfl) rfl (by kernel_rfl) fun w hM => ?_)
      refine sB 1 [(9, .int .i64 0)] hF (by kernel_rfl) fun a hF => ?_
      refine wpList_nil ?_
      refine hK5 _ _ ?_
      refine wp_seq_k fun K6 hK6 => ?_
      refine wp_seq_k fun K7 hK7 => ?_
      have hargs := runArgs_of (free := []) pr_lcr rfl
      have hfrom := runE_from hslo tr_lcr (by simp) hargs hrun
      have hrl : rst.length = lcr.length := runFrom_length _ _ _ _ _ _ _ hfrom
      have hdone := smooth_done hslo (by omega) pr_lcr hfrom
      refine wp_region_lit ?_
      refine sB 1 [(32, .int .i64 0)] hF (by kernel_rfl) fun a hF => ?_
      refine wl (eP 33 (v0 := .bool (!decide (0 = 0))) (v := .bool false) hF (by kernel_rfl) (fun _ => by kernel_rfl) (nT (by omega)) fun a hF => ?_)
      refine sB 5 [(34, .bool false), (35, .slice AA5 rst.length cc5), (36, .int .i64 (rst.length : Int)), (37, .slice AA3 lcr.length cc3), (38, .int .i64 (lcr.length : Int))] hF (by kernel_rfl) fun a hF => ?_
      refine wl (eP 39 (v0 := .bool (!decide ((rst.length : Int) = (lcr.length : Int)))) (v := .bool false) hF (by kernel_rfl) (fun _ => by kernel_rfl) (nT (by omega)) fun a hF => ?_)
      refine sB 1 [(40, .bool false)] hF (by kernel_rfl) fun a hF => ?_
      refine wpList_nil ?_
      refine hK7 _ _ ?_
      refine cF hF (by kernel_rfl) (by kernel_rfl) ?_
      refine wp_skip ?_
      refine hK6 _ _ ?_
      refine wp_seq_k fun K8 hK8 => ?_
      refine wp_region_lit ?_
      refine sB 1 [(43, .pointer (some ⟨bb4, 0, none⟩))] hF (by kernel_rfl) fun a hF => ?_
      refine wl (eL 44 6 0 (v := .int .i64 srt) hF hM (by kernel_rfl) rfl rfl (by kernel_rfl) (by kernel_rfl) fun a w hF hM => ?_)
      refine sB 1 [(45, .agg #[.int .i64 1, .int .i64 srt])] hF (by kernel_rfl) fun a hF => ?_
      refine wl (eN 10 9 (t := 66) (fun b => .pointer (some ⟨b, 0, none⟩)) #[.int .i64 0, .int .i64 0] hF hM (by kernel_rfl) (fun _ => by kernel_rfl) fun bb7 a w hF hM => ?_)
      refine wl (sStore (i := 9) (off := 0) (cs' := #[.int .i64 1, .int .i64 srt]) hF hM (by kernel_rfl) rfl rfl (by kernel_rfl) (by kernel_rfl) rfl (by kernel_rfl) fun w hM => ?_)
      refine wpList_nil ?_
      refine hK8 _ _ ?_
      refine wp_seq_k fun K9 hK9 => ?_
      refine wp_region_lit ?_
      refine wl (eN 46 10 (t := 57) (fun b => .slice (some ⟨b, 0, none⟩) 0 0) #[] hF hM (by kernel_rfl) (fun _ => by kernel_rfl) fun bb8 a w hF hM => ?_)
      refine sB 1 [(47, .slice AA3 lcr.length cc3)] hF (by kernel_rfl) fun a hF => ?_
      refine wl (sAppR0 48 10 (e := 57) (size := 2) (bytes := 16) (z := .agg #[.int .i64 0, .int .i64 0]) (m := lcr.length) (c := cc3) (news := (flat2 lcr)) (flat2 lcr) hF hM (by kernel_rfl) rfl (by kernel_rfl) (by kernel_rfl) (by kernel_rfl) rfl rfl rfl (by first | exact flat2_length _ | (rw [flat2_length]; omega)) (roO 5 rfl) (flat2_one _) (by omega) (by decide) rfl (own_nil hM (k := 5) rfl) fun AA9 cc9 a w hF hM => ?_)
      refine sB 1 [(11, .slice AA9 lcr.length cc9)] hF (by kernel_rfl) fun a hF => ?_
      refine wpList_nil ?_
      refine hK9 _ _ ?_
      refine wp_seq_k fun K10 hK10 => ?_
      refine wp_seq_k fun K11 hK11 => ?_
      refine wp_region_lit ?_
      refine sB 1 [(12, .int .i64 0)] hF (by kernel_rfl) fun a hF => ?_
      refine wpList_nil ?_
      refine hK11 _ _ ?_
      refine wp_block ?_
      refine wp_loop_k (G := Nat × Int × List (Int × Int) × Option Addr × Nat) (fun gg a w => Fr 84 [(11, some (.slice gg.2.2.2.1 lcr.length gg.2.2.2.2)), (12, some (.int .i64 (gg.1 : Int))), (4, some (.bool false)), (6, some (.slice AA3 lcr.length cc3)), (7, some (.slice AA5 rst.length cc5)), (10, some (.pointer (some ⟨bb7, 0, none⟩)))] a ∧ Mem w0.heap.size w0 [(1, some (.ro Ga (gaps.map (Value.int .u16)))), (2, some (.ro Sa (sizes.map (Value.int .u16)))), (5, some (.own (.slice AA3 lcr.length cc3) 57 2 lcr.length (flat2 lcr))), (7, some (.own (.slice AA5 rst.length cc5) 3 1 rst.length (rst.map (Value.int .i64)))), (9, some (.row bb7 66 #[.int .i64 gg.2.1, .int .i64 srt])), (10, some (.own (.slice gg.2.2.2.1 lcr.length gg.2.2.2.2) 57 2 lcr.length (flat2 gg.2.2.1)))] w ∧ ((gg.1 : Int) ≤ (lcr.length : Int)) ∧ ((gg.2.2.1.length : Int) = (lcr.length : Int)) ∧ (gg.2.1 = burstK lcr gg.1) ∧ (gg.2.2.1 = sentK lcr rst gg.1)) (fun gg => lcr.length - gg.1) (0, 1, lcr, AA9, cc9) ?_ ?_
      · refine ⟨(((((((Fr.nil hF).c hF (i := 10) rfl rfl).c hF (i := 7) rfl rfl).c hF (i := 6) rfl rfl).c hF (i := 4) rfl rfl).c hF (i := 12) rfl (vi (show (0 : Int) = (0 : Int) from by omega))).c hF (i := 11) rfl rfl), (hM.sub ((((((Sub.nil.c (k := 10) rfl rfl).c (k := 9) rfl rfl).c (k := 7) rfl rfl).c (k := 5) rfl rfl).c (k := 2) rfl rfl).c (k := 1) rfl rfl)), (show (0 : Int) ≤ (lcr.length : Int) from by omega), (show (lcr.length : Int) = (lcr.length : Int) from by rfl), (show 1 = burstK lcr 0 from by rfl), (show lcr = sentK lcr rst 0 from by exact (sentK_zero lcr rst).symm)⟩
      · intro gg a w hI
        intro K12 hK12
        obtain ⟨k, bb_, se, G1, c1⟩ := gg
        try dsimp only at hI hK12
        obtain ⟨hF, hM, hz2, hz3, hz4, hz5⟩ := hI
        have hbb := burstK_bd (fun k hk => (pr_lcr k hk).2.2) k (by omega)
        rw [← ‹bb_ = burstK lcr k›] at hbb
        refine wp_seq_k fun K13 hK13 => ?_
        refine wp_seq_k fun K14 hK14 => ?_
        refine wp_region_lit ?_
        refine sB 4 [(49, .int .i64 (k : Int)), (50, .slice AA3 lcr.length cc3), (51, .int .i64 (lcr.length : Int)), (52, .bool (decide ((k : Int) < (lcr.length : Int))))] hF (by kernel_rfl) fun a hF => ?_
        refine wpList_nil ?_
        refine hK14 _ _ ?_
        by_cases hz6 : (k : Int) < (lcr.length : Int)
        · skip
          replace hF := hF.c hF (i := 52) (v := .bool true) rfl (bT hz6)
          refine cT hF (by kernel_rfl) (by kernel_rfl) ?_
          refine wp_skip ?_
          refine hK13 _ _ ?_
          refine wp_seq_k fun K15 hK15 => ?_
          refine wp_block ?_
          refine wp_seq_k fun K16 hK16 => ?_
          have hprk := pr_lcr k (by omega)
          refine rT 10 (by kernel_rfl) (by kernel_rfl) hM.drew ?_
          refine eQ 55 (v0 := .pointer (some ⟨bb7, 0, none⟩)) (v := .pointer (some ⟨bb7, 0, none⟩)) hF (by kernel_rfl) (fun _ => by kernel_rfl) rfl fun a hF => ?_
          refine eQL 56 9 0 (v := .int .i64 bb_) hF (by kernel_rfl) rfl rfl (by kernel_rfl) (by kernel_rfl) fun a hF => ?_
          refine eQ 57 (v0 := .slice AA3 lcr.length cc3) (v := .slice AA3 lcr.length cc3) hF (by kernel_rfl) (fun _ => by kernel_rfl) rfl fun a hF => ?_
          refine eQ 58 (v0 := .int .i64 (k : Int)) (v := .int .i64 (k : Int)) hF (by kernel_rfl) (fun _ => by kernel_rfl) rfl fun a hF => ?_
          refine eQ2 59 (v := .pointer (some (ea AA3 (k * 2)))) hF (by kernel_rfl) (yld_ix (kd := .i64) (e := 57) (len := lcr.length) (cap := cc3) (i := (k : Int)) (size := 2) (A := AA3) hF rfl (by kernel_rfl) (by kernel_rfl) (by kernel_rfl) (by kernel_rfl) (by kernel_rfl) (roO 5 rfl) (by omega) (by omega) (by rw [flat2_length]; omega)) fun a hF => ?_
          refine eQ 60 (v0 := .pointer (some (ea AA3 (k * 2 + 1)))) (v := .pointer (some (ea AA3 (k * 2 + 1)))) hF (by kernel_rfl) (fun _ => by kernel_rfl) rfl fun a hF => ?_
          refine eQ2 61 (v := .int .i64 (pr lcr k).2) hF (by kernel_rfl) (yld_ro1 (A := AA3) (j := k * 2 + 1) hF rfl (by kernel_rfl) (by kernel_rfl) (roO 5 rfl) (by kernel_rfl) (pr_snd (k := k) (by omega) (by omega))) fun a hF => ?_
          refine eQ 62 (v0 := .int .i64 (IntKind.i64.wrap ((pr lcr k).2 + 1))) (v := .int .i64 ((pr lcr k).2 + 1)) hF (by kernel_rfl) (fun _ => by kernel_rfl) (wi (by omega)) fun a hF => ?_
          refine eQ 63 (v0 := .int .i64 (if (pr lcr k).2 + 1 > bb_ then (pr lcr k).2 + 1 else bb_)) (v := .int .i64 (max bb_ ((pr lcr k).2 + 1))) hF (by kernel_rfl) (fun _ => by kernel_rfl) (vi (max_if _ _)) fun a hF => ?_
          refine eQ 64 (v0 := .pointer (some ⟨bb7, 0, none⟩)) (v := .pointer (some ⟨bb7, 0, none⟩)) hF (by kernel_rfl) (fun _ => by kernel_rfl) rfl fun a hF => ?_
          refine wpQuiet_nil ?_
          intro w hM
          refine wl (sStore (i := 9) (off := 0) (cs' := #[.int .i64 (max bb_ ((pr lcr k).2 + 1)), .int .i64 srt]) hF hM (by kernel_rfl) rfl rfl (by kernel_rfl) (by kernel_rfl) rfl (by kernel_rfl) fun w hM => ?_)
          refine wpList_nil ?_
          refine hK16 _ _ ?_
          refine wp_region_lit ?_
          refine sB 4 [(65, .slice G1 lcr.length c1), (66, .int .i64 (k : Int)), (67, .slice AA5 rst.length cc5), (68, .int .i64 (k : Int))] hF (by kernel_rfl) fun a hF => ?_
          refine wl (eM 69 (v := .pointer (some (ea AA5 (k)))) hF hM (by kernel_rfl) (yld_ix (kd := .i64) (e := 3) (len := rst.length) (cap := cc5) (i := (k : Int)) (size := 1) (A := AA5) hF rfl (by kernel_rfl) (by kernel_rfl) (by kernel_rfl) (by kernel_rfl) (by kernel_rfl) (roO 7 rfl) (by omega) (by omega) (by rw [List.length_map]; omega)) fun a w hF hM => ?_)
          refine wl (eM 70 (v := .int .i64 (nt rst k)) hF hM (by kernel_rfl) (yld_ro1 (A := AA5) (j := k) hF rfl (by kernel_rfl) (by kernel_rfl) (roO 7 rfl) (by kernel_rfl) (nt_at (by omega))) fun a w hF hM => ?_)
          refine wl (eM 71 (v := .pointer (some (ea G1 (k * 2)))) hF hM (by kernel_rfl) (yld_ix (kd := .i64) (e := 57) (len := lcr.length) (cap := c1) (i := (k : Int)) (size := 2) (A := G1) hF rfl (by kernel_rfl) (by kernel_rfl) (by kernel_rfl) (by kernel_rfl) (by kernel_rfl) (roO 10 rfl) (by omega) (by omega) (by rw [flat2_length]; omega)) fun a w hF hM => ?_)
          refine sB 1 [(72, .pointer (some (ea G1 (k * 2))))] hF (by kernel_rfl) fun a hF => ?_
          refine wl (sStoreO 10 (j := k * 2) (A := G1) (flat2 ((se).set k (nt rst k, (pr se k).2))) hF hM (by kernel_rfl) rfl rfl (by kernel_rfl) (by kernel_rfl) rfl (by kernel_rfl) rfl rfl (by rw [flat2_length]; omega) (flat2_set1 (k := k) _ (by omega) (by omega)) fun w hM => ?_)
          refine wpList_nil ?_
          refine hK15 _ _ ?_
          refine wp_region_lit ?_
          refine sB 1 [(53, .int .i64 (k : Int))] hF (by kernel_rfl) fun a hF => ?_
          refine wl (eP 54 (v0 := .int .i64 (IntKind.i64.wrap ((k : Int) + 1))) (v := .int .i64 ((k : Int) + 1)) hF (by kernel_rfl) (fun _ => by kernel_rfl) (wi (by omega)) fun a hF => ?_)
          refine sB 1 [(12, .int .i64 ((k : Int) + 1))] hF (by kernel_rfl) fun a hF => ?_
          refine wpList_nil ?_
          refine hK12 _ _ ⟨(k + 1, max bb_ ((pr lcr k).2 + 1), (se).set k (nt rst k, (pr se k).2), G1, c1), ⟨(((((((Fr.nil hF).c hF (i := 10) rfl rfl).c hF (i := 7) rfl rfl).c hF (i := 6) rfl rfl).c hF (i := 4) rfl rfl).c hF (i := 12) rfl (vi (show ((k : Int) + 1 : Int) = ((k + 1) : Int) from by omega))).c hF (i := 11) rfl rfl), (hM.sub ((((((Sub.nil.c (k := 10) rfl rfl).c (k := 9) rfl rfl).c (k := 7) rfl rfl).c (k := 5) rfl rfl).c (k := 2) rfl rfl).c (k := 1) rfl rfl)), (show ((k + 1) : Int) ≤ (lcr.length : Int) from by omega), (show (((se).set k (nt rst k, (pr se k).2)).length : Int) = (lcr.length : Int) from by first | omega | (simp; omega)), (show (max bb_ ((pr lcr k).2 + 1)) = burstK lcr (k + 1) from by rw [‹bb_ = burstK lcr k›]; rfl), (show ((se).set k (nt rst k, (pr se k).2)) = sentK lcr rst (k + 1) from by rw [‹se = sentK lcr rst k›]; exact sentK_next (by omega))⟩, (show lcr.length - (k + 1) < lcr.length - k from by omega)⟩
        · skip
          replace hF := hF.c hF (i := 52) (v := .bool false) rfl (bF hz6)
          refine cF hF (by kernel_rfl) (by kernel_rfl) ?_
          refine wp_exit ?_
          refine hK10 _ _ ?_
          refine wp_seq_k fun K17 hK17 => ?_
          have hk : k = lcr.length := by omega
          have hcf : cfB bb_ srt se = true := by rw [‹bb_ = burstK lcr k›, ‹se = sentK lcr rst k›, hk]; exact hdone.2
          have hck : ckE bb_ srt se = 0 := by rw [‹bb_ = burstK lcr k›, ‹se = sentK lcr rst k›, hk]; exact hdone.1
          refine wp_region_lit ?_
          refine wl (eL 74 9 0 (v := .agg #[.int .i64 bb_, .int .i64 srt]) hF hM (by kernel_rfl) rfl rfl (by kernel_rfl) (by kernel_rfl) fun a w hF hM => ?_)
          refine sB 1 [(75, .slice G1 lcr.length c1)] hF (by kernel_rfl) fun a hF => ?_
          refine wl (eM 76 (v := .tuple #[.bool true, .int .i64 (ckE bb_ srt se)]) hF hM (by kernel_rfl) (Yld.to (yld_call (f := 25) (args := #[.agg #[.int .i64 bb_, .int .i64 srt], .slice G1 lcr.length c1]) hF (by kernel_rfl) (fun _ => by kernel_rfl) (fun w hM => (by rw [show lcr.length = se.length from by first | omega | (simp; done) | (simp; omega)]; exact conforms_w bb_ srt G1 se c1 w (ro_of_own (hM.ok 10 _ rfl))))) (by rw [hcf])) fun a w hF hM => ?_)
          refine sB 5 [(73, .tuple #[.bool true, .int .i64 (ckE bb_ srt se)]), (77, .bool true), (78, .int .i64 (ckE bb_ srt se)), (13, .bool true), (14, .int .i64 (ckE bb_ srt se))] hF (by kernel_rfl) fun a hF => ?_
          refine wpList_nil ?_
          refine hK17 _ _ ?_
          refine wp_seq_k fun K18 hK18 => ?_
          refine wp_region_lit ?_
          refine sB 3 [(79, .bool true), (80, .bool true), (81, .int .i64 (ckE bb_ srt se))] hF (by kernel_rfl) fun a hF => ?_
          refine wl (eP 82 (v0 := .bool (decide (ckE bb_ srt se = 0))) (v := .bool true) hF (by kernel_rfl) (fun _ => by kernel_rfl) (bT hck) fun a hF => ?_)
          refine sB 2 [(83, .bool true), (4, .bool true)] hF (by kernel_rfl) fun a hF => ?_
          refine wpList_nil ?_
          refine hK18 _ _ ?_
          refine wp_ret ?_
          refine hR0 _ _ ?_
          refine ret_of hF hM (.tmp rfl (.nil)) ?_
          exact ⟨rfl, hM.bel⟩
    · skip
      refine wp_region_lit ?_
      refine wl (eL 26 6 0 (v := .agg #[.int .i64 srt, .int .i64 spr]) hF hM (by kernel_rfl) rfl rfl (by kernel_rfl) (by kernel_rfl) fun a w hF hM => ?_)
      refine sB 1 [(27, .slice AA3 lcr.length cc3)] hF (by kernel_rfl) fun a hF => ?_
      refine wl (eM 28 (v := .tuple #[.slice none 0 0, .agg #[.int .i64 0, .int .i64 0], .int .i64 (runE srt spr lcr ([] : List Int))]) hF hM (by kernel_rfl) (yld_call (f := 12) (args := #[.agg #[.int .i64 srt, .int .i64 spr], .slice AA3 lcr.length cc3, .slice none 0 0]) hF (by kernel_rfl) (fun _ => by kernel_rfl) (fun w hM => crRun_errE hz1 (crRun_w srt spr AA3 lcr cc3 none ([] : List Int) 0 w (ro_of_own (hM.ok 5 _ rfl)) Ro.nil (by simp) (by omega)))) fun a w hF hM => ?_)
      refine sB 4 [(25, .tuple #[.slice none 0 0, .agg #[.int .i64 0, .int .i64 0], .int .i64 (runE srt spr lcr ([] : List Int))]), (29, .slice none 0 0), (30, .agg #[.int .i64 0, .int .i64 0]), (31, .int .i64 (runE srt spr lcr ([] : List Int)))] hF (by kernel_rfl) fun a hF => ?_
      refine wl (eN 8 11 (t := 40) (fun b => .pointer (some ⟨b, 0, none⟩)) #[.int .i64 0, .int .i64 0] hF hM (by kernel_rfl) (fun _ => by kernel_rfl) fun bb10 a w hF hM => ?_)
      refine sB 1 [(7, .slice none 0 0)] hF (by kernel_rfl) fun a hF => ?_
      refine wl (sStore (i := 11) (off := 0) (cs' := #[.int .i64 0, .int .i64 0]) hF hM (by kernel_rfl) rfl rfl (by kernel_rfl) (by kernel_rfl) rfl (by kernel_rfl) fun w hM => ?_)
      refine sB 1 [(9, .int .i64 (runE srt spr lcr ([] : List Int)))] hF (by kernel_rfl) fun a hF => ?_
      refine wpList_nil ?_
      refine hK5 _ _ ?_
      refine wp_seq_k fun K19 hK19 => ?_
      refine wp_seq_k fun K20 hK20 => ?_
      have hargs := runArgs_of (free := []) pr_lcr rfl
      have hsix : runE srt spr lcr ([] : List Int) = 6 := runE_six hslo tr_lcr (by simp) hargs hz1
      refine wp_region_lit ?_
      refine sB 1 [(32, .int .i64 (runE srt spr lcr ([] : List Int)))] hF (by kernel_rfl) fun a hF => ?_
      refine wl (eP 33 (v0 := .bool (!decide (runE srt spr lcr ([] : List Int) = 0))) (v := .bool true) hF (by kernel_rfl) (fun _ => by kernel_rfl) (nF hz1) fun a hF => ?_)
      refine sB 7 [(34, .bool true), (35, undef), (36, undef), (37, undef), (38, undef), (39, undef), (40, .bool true)] hF (by kernel_rfl) fun a hF => ?_
      refine wpList_nil ?_
      refine hK20 _ _ ?_
      refine cT hF (by kernel_rfl) (by kernel_rfl) ?_
      refine wp_seq_k fun K21 hK21 => ?_
      refine wp_region_lit ?_
      refine sB 1 [(41, .int .i64 (runE srt spr lcr ([] : List Int)))] hF (by kernel_rfl) fun a hF => ?_
      refine wl (eP 42 (v0 := .bool (decide (runE srt spr lcr ([] : List Int) = 6))) (v := .bool true) hF (by kernel_rfl) (fun _ => by kernel_rfl) (bT (by omega)) fun a hF => ?_)
      refine sB 1 [(4, .bool true)] hF (by kernel_rfl) fun a hF => ?_
      refine wpList_nil ?_
      refine hK21 _ _ ?_
      refine wp_ret ?_
      refine hR0 _ _ ?_
      refine ret_of hF hM (.tmp rfl (.nil)) ?_
      exact ⟨rfl, hM.bel⟩

end Go.Proofs.Ytjepnlebmgkomaa
