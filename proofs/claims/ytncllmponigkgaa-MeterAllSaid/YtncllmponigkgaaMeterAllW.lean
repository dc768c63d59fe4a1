/-
  The walk of MeterAll.
-/
import Derived.Test.YtncllmponigkgaaMeterG
import Derived.Test.YtncllmponigkgaaCfTrW
namespace Go.Proofs.Ytncllmponigkgaa
open Go.RowKit
set_option linter.unusedVariables false
set_option linter.unusedSimpArgs false

set_option maxRecDepth 100000 in
set_option maxHeartbeats 4000000 in
theorem meterAll_walk (bu ra : Int) (Ga : Option Addr) (gaps : List Int) (cg : Nat) (Sa : Option Addr) (sizes : List Int) (cs : Nat) (na nb : Int) (w0 : World) (hGa : Ro w0 Ga (gaps.map (Value.int .u16))) (hSa : Ro w0 Sa (sizes.map (Value.int .u16))) (hg : All16 gaps) (hs : All16 sizes) (hmg : gaps.length ≤ 9223372036854775807) (hms : sizes.length ≤ 9223372036854775807) (h : 0 ≤ bu ∧ bu < 4294967296 ∧ 0 ≤ ra ∧ ra < 4294967296 ∧ 0 ≤ na ∧ na < 4294967296 ∧ 0 ≤ nb ∧ nb < 4294967296) :
    Calls Try.prog 8 #[.agg #[.int .u32 bu, .int .u32 ra, .slice Ga gaps.length cg, .slice Sa sizes.length cs], .agg #[.int .u32 na, .int .u32 nb]] w0 (Ret w0 (.bool true)) := by
  refine enterK 78 Try.func8 rfl rfl rfl ?_
  intro a hF Q0 hR0 hN0
  have hM := Mem.start w0
  replace hM := hM.addOld 1 hGa (Nat.le_refl _)
  replace hM := hM.addOld 2 hSa (Nat.le_refl _)
  refine wp_seq_k fun K1 hK1 => ?_
  refine wp_region_lit ?_
  refine wl (eN 2 3 (t := 28) (fun b => .pointer (some ⟨b, 0, none⟩)) #[.int .u32 bu, .int .u32 ra, .slice Ga gaps.length cg, .slice Sa sizes.length cs] hF hM (by kernel_rfl) (fun _ => by kernel_rfl) fun bb1 a w hF hM => ?_)
  refine wl (eN 3 4 (t := 29) (fun b => .pointer (some ⟨b, 0, none⟩)) #[.int .u32 na, .int .u32 nb] hF hM (by kernel_rfl) (fun _ => by kernel_rfl) fun bb2 a w hF hM => ?_)
  refine sB 1 [(4, .bool false)] hF (by kernel_rfl) fun a hF => ?_
  refine wpList_nil ?_
  refine hK1 _ _ ?_
  refine wp_seq_k fun K2 hK2 => ?_
  refine wp_seq_k fun K3 hK3 => ?_
  refine wp_region_lit ?_
  refine wl (eM 15 (v := .bool true) hF hM (by kernel_rfl) (yld_call (f := 17) (args := #[]) hF (by kernel_rfl) (fun _ => by kernel_rfl) (fun w hM => works_w w)) fun a w hF hM => ?_)
  refine sB 1 [(16, .bool false)] hF (by kernel_rfl) fun a hF => ?_
  refine wpList_nil ?_
  refine hK3 _ _ ?_
  refine cF hF (by kernel_rfl) (by kernel_rfl) ?_
  refine wp_skip ?_
  refine hK2 _ _ ?_
  refine wp_seq_k fun K4 hK4 => ?_
  refine wp_region_lit ?_
  refine wl (eL 18 3 0 (v := .agg #[.int .u32 bu, .int .u32 ra, .slice Ga gaps.length cg, .slice Sa sizes.length cs]) hF hM (by kernel_rfl) rfl rfl (by kernel_rfl) (by kernel_rfl) fun a w hF hM => ?_)
  refine sB 1 [(19, .pointer (some ⟨bb2, 0, none⟩))] hF (by kernel_rfl) fun a hF => ?_
  refine wl (eL 20 4 0 (v := .int .u32 na) hF hM (by kernel_rfl) rfl rfl (by kernel_rfl) (by kernel_rfl) fun a w hF hM => ?_)
  refine wl (eP 21 (v0 := .int .u16 (IntKind.u16.wrap na)) (v := .int .u16 (na % 65536)) hF (by kernel_rfl) (fun _ => by kernel_rfl) (vi (u16_wrap _)) fun a hF => ?_)
  refine sB 1 [(22, .pointer (some ⟨bb2, 1, none⟩))] hF (by kernel_rfl) fun a hF => ?_
  refine wl (eL 23 4 1 (v := .int .u32 nb) hF hM (by kernel_rfl) rfl rfl (by kernel_rfl) (by kernel_rfl) fun a w hF hM => ?_)
  obtain ⟨pcb, e_pcb⟩ : ∃ x : Int, x = 1 + bu % 1048576 := ⟨_, rfl⟩
  obtain ⟨pcr, e_pcr⟩ : ∃ x : Int, x = 1 + ra % 2097152 := ⟨_, rfl⟩
  obtain ⟨ppb, e_ppb⟩ : ∃ x : Int, x = 1 + na % 65536 := ⟨_, rfl⟩
  obtain ⟨pps, e_pps⟩ : ∃ x : Int, x = min 2097152 (1 + ra % 2097152 + nb % 524288) := ⟨_, rfl⟩
  have hnew : newE pcb pcr ppb pps = 0 := by unfold newE bkE; omega
  have := newE_ok hnew
  refine wl (eM 24 (v := .tuple #[.agg #[.int .i64 pcb, .int .i64 pcr], .agg #[.int .i64 ppb, .int .i64 pps]]) hF hM (by kernel_rfl) (yld_call (f := 9) (args := #[.agg #[.int .u32 bu, .int .u32 ra, .slice Ga gaps.length cg, .slice Sa sizes.length cs], .int .u16 (na % 65536), .int .u32 nb]) hF (by kernel_rfl) (fun _ => by kernel_rfl) (fun w hM => by rw [e_pcb, e_pcr, e_ppb, e_pps]; exact pair_w bu ra (.slice Ga gaps.length cg) (.slice Sa sizes.length cs) (na % 65536) nb w (by omega))) fun a w hF hM => ?_)
  refine sB 3 [(17, .tuple #[.agg #[.int .i64 pcb, .int .i64 pcr], .agg #[.int .i64 ppb, .int .i64 pps]]), (25, .agg #[.int .i64 pcb, .int .i64 pcr]), (26, .agg #[.int .i64 ppb, .int .i64 pps])] hF (by kernel_rfl) fun a hF => ?_
  refine wl (eN 5 5 (t := 23) (fun b => .pointer (some ⟨b, 0, none⟩)) #[.int .i64 0, .int .i64 0] hF hM (by kernel_rfl) (fun _ => by kernel_rfl) fun bb3 a w hF hM => ?_)
  refine wl (eN 6 6 (t := 23) (fun b => .pointer (some ⟨b, 0, none⟩)) #[.int .i64 0, .int .i64 0] hF hM (by kernel_rfl) (fun _ => by kernel_rfl) fun bb4 a w hF hM => ?_)
  refine wl (sStore (i := 5) (off := 0) (cs' := #[.int .i64 pcb, .int .i64 pcr]) hF hM (by kernel_rfl) rfl rfl (by kernel_rfl) (by kernel_rfl) rfl (by kernel_rfl) fun w hM => ?_)
  refine wl (sStore (i := 6) (off := 0) (cs' := #[.int .i64 ppb, .int .i64 pps]) hF hM (by kernel_rfl) rfl rfl (by kernel_rfl) (by kernel_rfl) rfl (by kernel_rfl) fun w hM => ?_)
  refine wpList_nil ?_
  refine hK4 _ _ ?_
  refine wp_seq_k fun K5 hK5 => ?_
  have hcc : newE pcb pcr pcb pcr = 0 := by have := newE_bk hnew; unfold newE; rw [if_pos ⟨this.1, this.1⟩, if_neg (by omega)]
  refine wp_region_lit ?_
  refine wl (eL 27 3 0 (v := .agg #[.int .u32 bu, .int .u32 ra, .slice Ga gaps.length cg, .slice Sa sizes.length cs]) hF hM (by kernel_rfl) rfl rfl (by kernel_rfl) (by kernel_rfl) fun a w hF hM => ?_)
  obtain ⟨lcf, e_lcf⟩ : ∃ x : List (Int × Int), x = cfDr bu ra gaps sizes := ⟨_, rfl⟩
  have cf_lcf : cfB (1 + bu % 1048576) (1 + ra % 2097152) lcf = true := by rw [e_lcf]; exact cfTr_cf (by unfold bkE; omega) (dr_trE hg hs)
  have tr_lcf : trE lcf = 0 := ckE_tr (cf_iff.1 cf_lcf).1
  have le_lcf : lcf.length ≤ 30 := by rw [e_lcf]; exact Nat.le_trans (cfTr_le (by unfold bkE; omega) (dr_trE hg hs)) (dr_le _ _)
  have pr_lcf : ∀ k, k < lcf.length → 0 ≤ (pr lcf k).1 ∧ (pr lcf k).1 ≤ 1966050 ∧ 1 ≤ (pr lcf k).2 ∧ (pr lcf k).2 ≤ 65536 := by rw [e_lcf]; exact fun k hk => cfTr_pr (p := fun x => 0 ≤ x.1 ∧ x.1 ≤ 1966050 ∧ 1 ≤ x.2 ∧ x.2 ≤ 65536) (by unfold bkE; omega) (dr_trE hg hs) (fun j hj => dr_pr hg hs hj) hk
  refine wl (sOwn 7 (f := 25) (args := #[.agg #[.int .u32 bu, .int .u32 ra, .slice Ga gaps.length cg, .slice Sa sizes.length cs]]) (mk := fun v => v) (e := 33) (size := 2) (m := lcf.length) (xs := (flat2 lcf)) hF hM (by kernel_rfl) rfl (by decide) (by kernel_rfl) (fun _ => by kernel_rfl) (by rw [e_lcf]; exact conforming_w bu ra Ga gaps cg Sa sizes cs w (hM.ok 1 _ rfl) (hM.ok 2 _ rfl) hg hs (by omega) (by omega) (by omega)) fun AA5 cc5 a w hF hM => ?_)
  refine sB 1 [(7, .slice AA5 lcf.length cc5)] hF (by kernel_rfl) fun a hF => ?_
  refine wpList_nil ?_
  refine hK5 _ _ ?_
  refine wp_seq_k fun K6 hK6 => ?_
  refine wp_region_lit ?_
  refine wl (eL 30 5 0 (v := .agg #[.int .i64 pcb, .int .i64 pcr]) hF hM (by kernel_rfl) rfl rfl (by kernel_rfl) (by kernel_rfl) fun a w hF hM => ?_)
  refine wl (eL 31 6 0 (v := .agg #[.int .i64 ppb, .int .i64 pps]) hF hM (by kernel_rfl) rfl rfl (by kernel_rfl) (by kernel_rfl) fun a w hF hM => ?_)
  refine sB 1 [(32, .slice AA5 lcf.length cc5)] hF (by kernel_rfl) fun a hF => ?_
  have := mrunF_len pcb pcr ppb pps lcf
  refine wl (sOwn 8 (f := 19) (args := #[.agg #[.int .i64 pcb, .int .i64 pcr], .agg #[.int .i64 ppb, .int .i64 pps], .slice AA5 lcf.length cc5]) (mk := fun v => .tuple #[v, .int .i64 0]) (e := 3) (size := 1) (m := lcf.length) (xs := ((mrunF pcb pcr ppb pps lcf).map (Value.int .i64))) hF hM (by kernel_rfl) rfl (by decide) (by kernel_rfl) (fun _ => by kernel_rfl) (meterRun_ok pcb pcr ppb pps AA5 lcf cc5 w (ro_of_own (hM.ok 7 _ rfl)) hnew tr_lcf) fun AA6 cc6 a w hF hM => ?_)
  refine sB 5 [(29, .tuple #[.slice AA6 lcf.length cc6, .int .i64 0]), (34, .slice AA6 lcf.length cc6), (35, .int .i64 0), (8, .slice AA6 lcf.length cc6), (9, .int .i64 0)] hF (by kernel_rfl) fun a hF => ?_
  refine wpList_nil ?_
  refine hK6 _ _ ?_
  refine wp_seq_k fun K7 hK7 => ?_
  obtain ⟨ltr, e_ltr⟩ : ∃ x : List (Int × Int), x = drTrace gaps sizes := ⟨_, rfl⟩
  have tr_ltr : trE ltr = 0 := by rw [e_ltr]; exact dr_trE hg hs
  have le_ltr : ltr.length ≤ 30 := by rw [e_ltr]; exact dr_le _ _
  have := mrunF_len pcb pcr pcb pcr ltr
  refine rF (by kernel_rfl) (by kernel_rfl) (fun S a w => ∃ AA7 : Option Addr, ∃ cc7 : Nat, ∃ AA8 : Option Addr, ∃ cc8 : Nat, Fr 78 [(2, some (.pointer (some ⟨bb1, 0, none⟩))), (4, some (.bool false)), (5, some (.pointer (some ⟨bb3, 0, none⟩))), (6, some (.pointer (some ⟨bb4, 0, none⟩))), (7, some (.slice AA5 lcf.length cc5)), (8, some (.slice AA6 lcf.length cc6)), (9, some (.int .i64 0)), (10, (cond (S.getD 8 false) (some (.slice AA8 ltr.length cc8)) none)), (11, (cond (S.getD 9 false) (some (.int .i64 0)) none)), (36, (cond (S.getD 5 false) (some (.tuple #[.slice AA8 ltr.length cc8, .int .i64 0])) none)), (37, (cond (S.getD 0 false) (some (.agg #[.int .i64 pcb, .int .i64 pcr])) none)), (38, (cond (S.getD 1 false) (some (.agg #[.int .i64 pcb, .int .i64 pcr])) none)), (39, (cond (S.getD 2 false) (some (.agg #[.int .u32 bu, .int .u32 ra, .slice Ga gaps.length cg, .slice Sa sizes.length cs])) none)), (40, (cond (S.getD 3 false) (some (.slice AA7 ltr.length cc7)) none)), (41, (cond (S.getD 4 false) (some (.tuple #[.slice AA8 ltr.length cc8, .int .i64 0])) none)), (42, (cond (S.getD 6 false) (some (.slice AA8 ltr.length cc8)) none)), (43, (cond (S.getD 7 false) (some (.int .i64 0)) none))] a ∧ Mem w0.heap.size w0 [(1, some (.ro Ga (gaps.map (Value.int .u16)))), (2, some (.ro Sa (sizes.map (Value.int .u16)))), (3, some (.row bb1 28 #[.int .u32 bu, .int .u32 ra, .slice Ga gaps.length cg, .slice Sa sizes.length cs])), (5, some (.row bb3 23 #[.int .i64 pcb, .int .i64 pcr])), (6, some (.row bb4 23 #[.int .i64 ppb, .int .i64 pps])), (7, some (.own (.slice AA5 lcf.length cc5) 33 2 lcf.length (flat2 lcf))), (8, some (.own (.slice AA6 lcf.length cc6) 3 1 lcf.length ((mrunF pcb pcr ppb pps lcf).map (Value.int .i64)))), (9, (cond (S.getD 3 false) (some (.own (.slice AA7 ltr.length cc7) 33 2 ltr.length (flat2 ltr))) none)), (10, (cond (S.getD 4 false) (some (.own (.slice AA8 ltr.length cc8) 3 1 ltr.length ((mrunF pcb pcr pcb pcr ltr).map (Value.int .i64)))) none))] w) ?_ ?_ ?_
  · exact ⟨none, 0, none, 0, ((((((((((((((((((Fr.nil hF).co hF (i := 43) (by kernel_rfl)).co hF (i := 42) (by kernel_rfl)).co hF (i := 41) (by kernel_rfl)).co hF (i := 40) (by kernel_rfl)).co hF (i := 39) (by kernel_rfl)).co hF (i := 38) (by kernel_rfl)).co hF (i := 37) (by kernel_rfl)).co hF (i := 36) (by kernel_rfl)).co hF (i := 11) (by kernel_rfl)).co hF (i := 10) (by kernel_rfl)).co hF (i := 9) (by kernel_rfl)).co hF (i := 8) (by kernel_rfl)).co hF (i := 7) (by kernel_rfl)).co hF (i := 6) (by kernel_rfl)).co hF (i := 5) (by kernel_rfl)).co hF (i := 4) (by kernel_rfl)).co hF (i := 2) (by kernel_rfl)), hM.drew.sub (((((((((Sub.nil.co (k := 10) (by kernel_rfl)).co (k := 9) (by kernel_rfl)).co (k := 8) (by kernel_rfl)).co (k := 7) (by kernel_rfl)).co (k := 6) (by kernel_rfl)).co (k := 5) (by kernel_rfl)).co (k := 3) (by kernel_rfl)).co (k := 2) (by kernel_rfl)).co (k := 1) (by kernel_rfl))⟩
  · refine stC ?_ (stC ?_ (stC ?_ (stC ?_ (stC ?_ (stC ?_ (stC ?_ (stC ?_ (stC ?_ (stC ?_ (trivial))))))))))
    · intro s0 s1 s2 s3 s4 s5 s6 s7 s8 s9 hc hi hp a w hS
      obtain rfl : s0 = false := hi
      obtain ⟨AA7, cc7, AA8, cc8, hF, hM⟩ := hS
      refine eL 37 5 0 (v := .agg #[.int .i64 pcb, .int .i64 pcr]) hF hM (by kernel_rfl) rfl rfl (by kernel_rfl) (by kernel_rfl) fun a w hF hM => ?_
      exact ⟨AA7, cc7, AA8, cc8, ((hF.repl 10 (by kernel_rfl)).cast (by kernel_rfl)), (hM.cast (by kernel_rfl))⟩
    · intro s0 s1 s2 s3 s4 s5 s6 s7 s8 s9 hc hi hp a w hS
      obtain rfl : s1 = false := hi
      obtain ⟨AA7, cc7, AA8, cc8, hF, hM⟩ := hS
      refine eL 38 5 0 (v := .agg #[.int .i64 pcb, .int .i64 pcr]) hF hM (by kernel_rfl) rfl rfl (by kernel_rfl) (by kernel_rfl) fun a w hF hM => ?_
      exact ⟨AA7, cc7, AA8, cc8, ((hF.repl 11 (by kernel_rfl)).cast (by kernel_rfl)), (hM.cast (by kernel_rfl))⟩
    · intro s0 s1 s2 s3 s4 s5 s6 s7 s8 s9 hc hi hp a w hS
      obtain rfl : s2 = false := hi
      obtain ⟨AA7, cc7, AA8, cc8, hF, hM⟩ := hS
      refine eL 39 3 0 (v := .agg #[.int .u32 bu, .int .u32 ra, .slice Ga gaps.length cg, .slice Sa sizes.length cs]) hF hM (by kernel_rfl) rfl rfl (by kernel_rfl) (by kernel_rfl) fun a w hF hM => ?_
      exact ⟨AA7, cc7, AA8, cc8, ((hF.repl 12 (by kernel_rfl)).cast (by kernel_rfl)), (hM.cast (by kernel_rfl))⟩
    · intro s0 s1 s2 s3 s4 s5 s6 s7 s8 s9 hc hi hp a w hS
      obtain rfl : s3 = false := hi
      obtain rfl : s2 = true := hp 2 (by kernel_rfl)
      obtain ⟨AA7, cc7, AA8, cc8, hF, hM⟩ := hS
      refine sOwn 9 (f := 18) (args := #[.agg #[.int .u32 bu, .int .u32 ra, .slice Ga gaps.length cg, .slice Sa sizes.length cs]]) (mk := fun v => v) (e := 33) (size := 2) (m := ltr.length) (xs := (flat2 ltr)) hF hM (by kernel_rfl) rfl (by decide) (by kernel_rfl) (fun _ => by kernel_rfl) (by rw [e_ltr]; exact draftTrace_w bu ra Ga gaps cg Sa sizes cs w (hM.ok 1 _ rfl) (hM.ok 2 _ rfl) hg hs (by omega) (by omega)) fun AA7 cc7 a w hF hM => ?_
      exact ⟨AA7, cc7, AA8, cc8, ((hF.repl 13 (by kernel_rfl)).cast (by kernel_rfl)), ((hM.repl 7 (by kernel_rfl)).cast (by kernel_rfl))⟩
    · intro s0 s1 s2 s3 s4 s5 s6 s7 s8 s9 hc hi hp a w hS
      obtain rfl : s4 = false := hi
      obtain rfl : s3 = true := hp 3 (by kernel_rfl)
      obtain rfl : s1 = true := hp 1 (by kernel_rfl)
      obtain rfl : s0 = true := hp 0 (by kernel_rfl)
      obtain rfl : s5 = false := hc.f 5 4 (by kernel_rfl) rfl
      obtain rfl : s6 = false := hc.f 6 5 (by kernel_rfl) rfl
      obtain rfl : s8 = false := hc.f 8 4 (by kernel_rfl) rfl
      obtain ⟨AA7, cc7, AA8, cc8, hF, hM⟩ := hS
      refine sOwn 10 (f := 19) (args := #[.agg #[.int .i64 pcb, .int .i64 pcr], .agg #[.int .i64 pcb, .int .i64 pcr], .slice AA7 ltr.length cc7]) (mk := fun v => .tuple #[v, .int .i64 0]) (e := 3) (size := 1) (m := ltr.length) (xs := ((mrunF pcb pcr pcb pcr ltr).map (Value.int .i64))) hF hM (by kernel_rfl) rfl (by decide) (by kernel_rfl) (fun _ => by kernel_rfl) (meterRun_ok pcb pcr pcb pcr AA7 ltr cc7 w (ro_of_own (hM.ok 9 _ rfl)) hcc tr_ltr) fun AA8 cc8 a w hF hM => ?_
      exact ⟨AA7, cc7, AA8, cc8, ((hF.repl 14 (by kernel_rfl)).cast (by kernel_rfl)), ((hM.repl 8 (by kernel_rfl)).cast (by kernel_rfl))⟩
    · intro s0 s1 s2 s3 s4 s5 s6 s7 s8 s9 hc hi hp a w hS
      obtain rfl : s5 = false := hi
      obtain rfl : s4 = true := hp 4 (by kernel_rfl)
      obtain ⟨AA7, cc7, AA8, cc8, hF, hM⟩ := hS
      refine eP 36 (v0 := .tuple #[.slice AA8 ltr.length cc8, .int .i64 0]) (v := .tuple #[.slice AA8 ltr.length cc8, .int .i64 0]) hF (by kernel_rfl) (fun _ => by kernel_rfl) rfl fun a hF => ?_
      exact ⟨AA7, cc7, AA8, cc8, ((hF.repl 9 (by kernel_rfl)).cast (by kernel_rfl)), (hM.cast (by kernel_rfl))⟩
    · intro s0 s1 s2 s3 s4 s5 s6 s7 s8 s9 hc hi hp a w hS
      obtain rfl : s6 = false := hi
      obtain rfl : s5 = true := hp 5 (by kernel_rfl)
      obtain rfl : s4 = true := hc 5 4 (by kernel_rfl) rfl
      obtain ⟨AA7, cc7, AA8, cc8, hF, hM⟩ := hS
      refine eP 42 (v0 := .slice AA8 ltr.length cc8) (v := .slice AA8 ltr.length cc8) hF (by kernel_rfl) (fun _ => by kernel_rfl) rfl fun a hF => ?_
      exact ⟨AA7, cc7, AA8, cc8, ((hF.repl 15 (by kernel_rfl)).cast (by kernel_rfl)), (hM.cast (by kernel_rfl))⟩
    · intro s0 s1 s2 s3 s4 s5 s6 s7 s8 s9 hc hi hp a w hS
      obtain rfl : s7 = false := hi
      obtain rfl : s5 = true := hp 5 (by kernel_rfl)
      obtain rfl : s4 = true := hc 5 4 (by kernel_rfl) rfl
      obtain ⟨AA7, cc7, AA8, cc8, hF, hM⟩ := hS
      refine eP 43 (v0 := .int .i64 0) (v := .int .i64 0) hF (by kernel_rfl) (fun _ => by kernel_rfl) rfl fun a hF => ?_
      exact ⟨AA7, cc7, AA8, cc8, ((hF.repl 16 (by kernel_rfl)).cast (by kernel_rfl)), (hM.cast (by kernel_rfl))⟩
    · intro s0 s1 s2 s3 s4 s5 s6 s7 s8 s9 hc hi hp a w hS
      obtain rfl : s8 = false := hi
      obtain rfl : s6 = true := hp 6 (by kernel_rfl)
      obtain rfl : s4 = true := hp 4 (by kernel_rfl)
      obtain ⟨AA7, cc7, AA8, cc8, hF, hM⟩ := hS
      refine eP 10 (v0 := .slice AA8 ltr.length cc8) (v := .slice AA8 ltr.length cc8) hF (by kernel_rfl) (fun _ => by kernel_rfl) rfl fun a hF => ?_
      exact ⟨AA7, cc7, AA8, cc8, ((hF.repl 7 (by kernel_rfl)).cast (by kernel_rfl)), (hM.cast (by kernel_rfl))⟩
    · intro s0 s1 s2 s3 s4 s5 s6 s7 s8 s9 hc hi hp a w hS
      obtain rfl : s9 = false := hi
      obtain rfl : s7 = true := hp 7 (by kernel_rfl)
      obtain ⟨AA7, cc7, AA8, cc8, hF, hM⟩ := hS
      refine eP 11 (v0 := .int .i64 0) (v := .int .i64 0) hF (by kernel_rfl) (fun _ => by kernel_rfl) rfl fun a hF => ?_
      exact ⟨AA7, cc7, AA8, cc8, ((hF.repl 8 (by kernel_rfl)).cast (by kernel_rfl)), (hM.cast (by kernel_rfl))⟩
  · intro a w hS
    obtain ⟨AA7, cc7, AA8, cc8, hF, hM⟩ := hS
    replace hF : Fr 78 [(2, some (.pointer (some ⟨bb1, 0, none⟩))), (4, some (.bool false)), (5, some (.pointer (some ⟨bb3, 0, none⟩))), (6, some (.pointer (some ⟨bb4, 0, none⟩))), (7, some (.slice AA5 lcf.length cc5)), (8, some (.slice AA6 lcf.length cc6)), (9, some (.int .i64 0)), (10, some (.slice AA8 ltr.length cc8)), (11, some (.int .i64 0)), (36, some (.tuple #[.slice AA8 ltr.length cc8, .int .i64 0])), (37, some (.agg #[.int .i64 pcb, .int .i64 pcr])), (38, some (.agg #[.int .i64 pcb, .int .i64 pcr])), (39, some (.agg #[.int .u32 bu, .int .u32 ra, .slice Ga gaps.length cg, .slice Sa sizes.length cs])), (40, some (.slice AA7 ltr.length cc7)), (41, some (.tuple #[.slice AA8 ltr.length cc8, .int .i64 0])), (42, some (.slice AA8 ltr.length cc8)), (43, some (.int .i64 0))] a := hF.cast (by kernel_rfl)
    replace hM : Mem w0.heap.size w0 [(1, some (.ro Ga (gaps.map (Value.int .u16)))), (2, some (.ro Sa (sizes.map (Value.int .u16)))), (3, some (.row bb1 28 #[.int .u32 bu, .int .u32 ra, .slice Ga gaps.length cg, .slice Sa sizes.length cs])), (5, some (.row bb3 23 #[.int .i64 pcb, .int .i64 pcr])), (6, some (.row bb4 23 #[.int .i64 ppb, .int .i64 pps])), (7, some (.own (.slice AA5 lcf.length cc5) 33 2 lcf.length (flat2 lcf))), (8, some (.own (.slice AA6 lcf.length cc6) 3 1 lcf.length ((mrunF pcb pcr ppb pps lcf).map (Value.int .i64)))), (9, some (.own (.slice AA7 ltr.length cc7) 33 2 ltr.length (flat2 ltr))), (10, some (.own (.slice AA8 ltr.length cc8) 3 1 ltr.length ((mrunF pcb pcr pcb pcr ltr).map (Value.int .i64))))] w := hM.cast (by kernel_rfl)
    refine hK7 _ _ ?_
    refine wp_seq_k fun K8 hK8 => ?_
    refine wp_seq_k fun K9 hK9 => ?_
    refine wp_region_lit ?_
    refine sB 1 [(44, .int .i64 0)] hF (by kernel_rfl) fun a hF => ?_
    refine wl (eP 45 (v0 := .bool (!decide (0 = 0))) (v := .bool false) hF (by kernel_rfl) (fun _ => by kernel_rfl) (nT (by omega)) fun a hF => ?_)
    refine sB 2 [(46, .bool false), (47, .int .i64 0)] hF (by kernel_rfl) fun a hF => ?_
    refine wl (eP 48 (v0 := .bool (!decide (0 = 0))) (v := .bool false) hF (by kernel_rfl) (fun _ => by kernel_rfl) (nT (by omega)) fun a hF => ?_)
    refine sB 1 [(49, .bool false)] hF (by kernel_rfl) fun a hF => ?_
    refine wpList_nil ?_
    refine hK9 _ _ ?_
    refine cF hF (by kernel_rfl) (by kernel_rfl) ?_
    refine wp_skip ?_
    refine hK8 _ _ ?_
    refine wp_seq_k fun K10 hK10 => ?_
    refine wp_region_lit ?_
    refine wl (eL 50 6 0 (v := .agg #[.int .i64 ppb, .int .i64 pps]) hF hM (by kernel_rfl) rfl rfl (by kernel_rfl) (by kernel_rfl) fun a w hF hM => ?_)
    refine sB 1 [(51, .slice AA5 lcf.length cc5)] hF (by kernel_rfl) fun a hF => ?_
    refine wl (eM 52 (v := .bool (cfB ppb pps lcf)) hF hM (by kernel_rfl) (yld_call (f := 24) (args := #[.agg #[.int .i64 ppb, .int .i64 pps], .slice AA5 lcf.length cc5]) hF (by kernel_rfl) (fun _ => by kernel_rfl) (fun w hM => lconf_w ppb pps AA5 lcf cc5 w (ro_of_own (hM.ok 7 _ rfl)))) fun a w hF hM => ?_)
    refine sB 1 [(12, .bool (cfB ppb pps lcf))] hF (by kernel_rfl) fun a hF => ?_
    refine wpList_nil ?_
    refine hK10 _ _ ?_
    refine wp_seq_k fun K11 hK11 => ?_
    refine wp_seq_k fun K12 hK12 => ?_
    cases hz1 : (cfB ppb pps lcf)
    · skip
      replace hF := hF.c hF (i := 12) (v := .bool false) rfl (congrArg Value.bool hz1)
      replace hF := hF.c hF (i := 52) (v := .bool false) rfl (congrArg Value.bool hz1)
      refine wp_region_lit ?_
      refine sB 1 [(13, .int .i64 0)] hF (by kernel_rfl) fun a hF => ?_
      refine wpList_nil ?_
      refine hK12 _ _ ?_
      refine wp_block ?_
      refine wp_loop_k (G := Nat) (fun gg a w => Fr 78 [(13, some (.int .i64 (gg : Int))), (8, some (.slice AA6 lcf.length cc6)), (10, some (.slice AA8 ltr.length cc8)), (12, some (.bool false))] a ∧ Mem w0.heap.size w0 [(1, some (.ro Ga (gaps.map (Value.int .u16)))), (2, some (.ro Sa (sizes.map (Value.int .u16)))), (8, some (.own (.slice AA6 lcf.length cc6) 3 1 lcf.length ((mrunF pcb pcr ppb pps lcf).map (Value.int .i64)))), (10, some (.own (.slice AA8 ltr.length cc8) 3 1 ltr.length ((mrunF pcb pcr pcb pcr ltr).map (Value.int .i64))))] w ∧ ((gg : Int) ≤ (lcf.length : Int))) (fun gg => lcf.length - gg) (0) ?_ ?_
      · refine ⟨(((((Fr.nil hF).c hF (i := 12) rfl rfl).c hF (i := 10) rfl rfl).c hF (i := 8) rfl rfl).c hF (i := 13) rfl (vi (show (0 : Int) = (0 : Int) from by omega))), (hM.sub ((((Sub.nil.c (k := 10) rfl rfl).c (k := 8) rfl rfl).c (k := 2) rfl rfl).c (k := 1) rfl rfl)), (show (0 : Int) ≤ (lcf.length : Int) from by omega)⟩
      · intro gg a w hI
        intro K13 hK13
        obtain ⟨k, rfl⟩ : ∃ x, x = gg := ⟨_, rfl⟩
        try dsimp only at hI hK13
        obtain ⟨hF, hM, hz2⟩ := hI
        refine wp_seq_k fun K14 hK14 => ?_
        refine wp_seq_k fun K15 hK15 => ?_
        refine wp_region_lit ?_
        refine sB 4 [(53, .int .i64 (k : Int)), (54, .slice AA6 lcf.length cc6), (55, .int .i64 (lcf.length : Int)), (56, .bool (decide ((k : Int) < (lcf.length : Int))))] hF (by kernel_rfl) fun a hF => ?_
        refine wpList_nil ?_
        refine hK15 _ _ ?_
        by_cases hz3 : (k : Int) < (lcf.length : Int)
        · skip
          replace hF := hF.c hF (i := 56) (v := .bool true) rfl (bT hz3)
          refine cT hF (by kernel_rfl) (by kernel_rfl) ?_
          refine wp_skip ?_
          refine hK14 _ _ ?_
          refine wp_seq_k fun K16 hK16 => ?_
          refine wp_block ?_
          refine wp_seq_k fun K17 hK17 => ?_
          refine wp_region_lit ?_
          refine sB 8 [(59, .bool false), (60, .bool false), (61, undef), (62, undef), (63, undef), (64, undef), (65, undef), (66, .bool false)] hF (by kernel_rfl) fun a hF => ?_
          refine wpList_nil ?_
          refine hK17 _ _ ?_
          refine cF hF (by kernel_rfl) (by kernel_rfl) ?_
          refine wp_skip ?_
          refine hK16 _ _ ?_
          refine wp_region_lit ?_
          refine sB 1 [(57, .int .i64 (k : Int))] hF (by kernel_rfl) fun a hF => ?_
          refine wl (eP 58 (v0 := .int .i64 (IntKind.i64.wrap ((k : Int) + 1))) (v := .int .i64 ((k : Int) + 1)) hF (by kernel_rfl) (fun _ => by kernel_rfl) (wi (by omega)) fun a hF => ?_)
          refine sB 1 [(13, .int .i64 ((k : Int) + 1))] hF (by kernel_rfl) fun a hF => ?_
          refine wpList_nil ?_
          refine hK13 _ _ ⟨(k + 1), ⟨(((((Fr.nil hF).c hF (i := 12) rfl rfl).c hF (i := 10) rfl rfl).c hF (i := 8) rfl rfl).c hF (i := 13) rfl (vi (show ((k : Int) + 1 : Int) = ((k + 1) : Int) from by omega))), (hM.sub ((((Sub.nil.c (k := 10) rfl rfl).c (k := 8) rfl rfl).c (k := 2) rfl rfl).c (k := 1) rfl rfl)), (show ((k + 1) : Int) ≤ (lcf.length : Int) from by omega)⟩, (show lcf.length - (k + 1) < lcf.length - k from by omega)⟩
        · skip
          replace hF := hF.c hF (i := 56) (v := .bool false) rfl (bF hz3)
          refine cF hF (by kernel_rfl) (by kernel_rfl) ?_
          refine wp_exit ?_
          refine hK11 _ _ ?_
          refine wp_seq_k fun K18 hK18 => ?_
          refine wp_seq_k fun K19 hK19 => ?_
          refine wp_region_lit ?_
          refine sB 1 [(14, .int .i64 0)] hF (by kernel_rfl) fun a hF => ?_
          refine wpList_nil ?_
          refine hK19 _ _ ?_
          refine wp_block ?_
          refine wp_loop_k (G := Nat) (fun gg a w => Fr 78 [(14, some (.int .i64 (gg : Int))), (10, some (.slice AA8 ltr.length cc8))] a ∧ Mem w0.heap.size w0 [(1, some (.ro Ga (gaps.map (Value.int .u16)))), (2, some (.ro Sa (sizes.map (Value.int .u16)))), (10, some (.own (.slice AA8 ltr.length cc8) 3 1 ltr.length ((mrunF pcb pcr pcb pcr ltr).map (Value.int .i64))))] w ∧ ((gg : Int) ≤ (ltr.length : Int))) (fun gg => ltr.length - gg) (0) ?_ ?_
          · refine ⟨(((Fr.nil hF).c hF (i := 10) rfl rfl).c hF (i := 14) rfl (vi (show (0 : Int) = (0 : Int) from by omega))), (hM.sub (((Sub.nil.c (k := 10) rfl rfl).c (k := 2) rfl rfl).c (k := 1) rfl rfl)), (show (0 : Int) ≤ (ltr.length : Int) from by omega)⟩
          · intro gg a w hI
            intro K20 hK20
            obtain ⟨k, rfl⟩ : ∃ x, x = gg := ⟨_, rfl⟩
            try dsimp only at hI hK20
            obtain ⟨hF, hM, hz4⟩ := hI
            refine wp_seq_k fun K21 hK21 => ?_
            refine wp_seq_k fun K22 hK22 => ?_
            refine wp_region_lit ?_
            refine sB 4 [(67, .int .i64 (k : Int)), (68, .slice AA8 ltr.length cc8), (69, .int .i64 (ltr.length : Int)), (70, .bool (decide ((k : Int) < (ltr.length : Int))))] hF (by kernel_rfl) fun a hF => ?_
            refine wpList_nil ?_
            refine hK22 _ _ ?_
            by_cases hz5 : (k : Int) < (ltr.length : Int)
            · skip
              replace hF := hF.c hF (i := 70) (v := .bool true) rfl (bT hz5)
              refine cT hF (by kernel_rfl) (by kernel_rfl) ?_
              refine wp_skip ?_
              refine hK21 _ _ ?_
              refine wp_seq_k fun K23 hK23 => ?_
              refine wp_block ?_
              refine wp_seq_k fun K24 hK24 => ?_
              have hz1 : ¬ nt (mrunF pcb pcr pcb pcr ltr) k = 1 := not_yellow (by omega)
              refine wp_region_lit ?_
              refine sB 2 [(73, .slice AA8 ltr.length cc8), (74, .int .i64 (k : Int))] hF (by kernel_rfl) fun a hF => ?_
              refine wl (eM 75 (v := .pointer (some (ea AA8 (k)))) hF hM (by kernel_rfl) (yld_ix (kd := .i64) (e := 3) (len := ltr.length) (cap := cc8) (i := (k : Int)) (size := 1) (A := AA8) hF rfl (by kernel_rfl) (by kernel_rfl) (by kernel_rfl) (by kernel_rfl) (by kernel_rfl) (roO 10 rfl) (by omega) (by omega) (by (try simp only [List.length_map, List.length_append, List.length_replicate, List.length_set, List.length_cons, List.length_nil, flat2_length, List.length_take]); omega)) fun a w hF hM => ?_)
              refine wl (eM 76 (v := .int .i64 (nt (mrunF pcb pcr pcb pcr ltr) k)) hF hM (by kernel_rfl) (yld_ro1 (A := AA8) (j := k) hF rfl (by kernel_rfl) (by kernel_rfl) (roO 10 rfl) (by kernel_rfl) (nt_at (by (try simp only [List.length_map, List.length_append, List.length_replicate, List.length_set, List.length_cons, List.length_nil, flat2_length, List.length_take]); omega))) fun a w hF hM => ?_)
              refine wl (eP 77 (v0 := .bool (decide (nt (mrunF pcb pcr pcb pcr ltr) k = 1))) (v := .bool false) hF (by kernel_rfl) (fun _ => by kernel_rfl) (bF hz1) fun a hF => ?_)
              refine wpList_nil ?_
              refine hK24 _ _ ?_
              refine cF hF (by kernel_rfl) (by kernel_rfl) ?_
              refine wp_skip ?_
              refine hK23 _ _ ?_
              refine wp_region_lit ?_
              refine sB 1 [(71, .int .i64 (k : Int))] hF (by kernel_rfl) fun a hF => ?_
              refine wl (eP 72 (v0 := .int .i64 (IntKind.i64.wrap ((k : Int) + 1))) (v := .int .i64 ((k : Int) + 1)) hF (by kernel_rfl) (fun _ => by kernel_rfl) (wi (by omega)) fun a hF => ?_)
              refine sB 1 [(14, .int .i64 ((k : Int) + 1))] hF (by kernel_rfl) fun a hF => ?_
              refine wpList_nil ?_
              refine hK20 _ _ ⟨(k + 1), ⟨(((Fr.nil hF).c hF (i := 10) rfl rfl).c hF (i := 14) rfl (vi (show ((k : Int) + 1 : Int) = ((k + 1) : Int) from by omega))), (hM.sub (((Sub.nil.c (k := 10) rfl rfl).c (k := 2) rfl rfl).c (k := 1) rfl rfl)), (show ((k + 1) : Int) ≤ (ltr.length : Int) from by omega)⟩, (show ltr.length - (k + 1) < ltr.length - k from by omega)⟩
            · skip
              replace hF := hF.c hF (i := 70) (v := .bool false) rfl (bF hz5)
              refine cF hF (by kernel_rfl) (by kernel_rfl) ?_
              refine wp_exit ?_
              refine hK18 _ _ ?_
              refine wp_seq_k fun K25 hK25 => ?_
              refine wp_region_lit ?_
              refine sB 1 [(4, .bool true)] hF (by kernel_rfl) fun a hF => ?_
              refine wpList_nil ?_
              refine hK25 _ _ ?_
              refine wp_ret ?_
              refine hR0 _ _ ?_
              refine ret_of hF hM (.tmp rfl (.nil)) ?_
              exact ⟨rfl, hM.bel⟩
    · skip
      replace hF := hF.c hF (i := 12) (v := .bool true) rfl (congrArg Value.bool hz1)
      replace hF := hF.c hF (i := 52) (v := .bool true) rfl (congrArg Value.bool hz1)
      refine wp_region_lit ?_
      refine sB 1 [(13, .int .i64 0)] hF (by kernel_rfl) fun a hF => ?_
      refine wpList_nil ?_
      refine hK12 _ _ ?_
      refine wp_block ?_
      refine wp_loop_k (G := Nat) (fun gg a w => Fr 78 [(13, some (.int .i64 (gg : Int))), (8, some (.slice AA6 lcf.length cc6)), (10, some (.slice AA8 ltr.length cc8)), (12, some (.bool true))] a ∧ Mem w0.heap.size w0 [(1, some (.ro Ga (gaps.map (Value.int .u16)))), (2, some (.ro Sa (sizes.map (Value.int .u16)))), (8, some (.own (.slice AA6 lcf.length cc6) 3 1 lcf.length ((mrunF pcb pcr ppb pps lcf).map (Value.int .i64)))), (10, some (.own (.slice AA8 ltr.length cc8) 3 1 ltr.length ((mrunF pcb pcr pcb pcr ltr).map (Value.int .i64))))] w ∧ ((gg : Int) ≤ (lcf.length : Int))) (fun gg => lcf.length - gg) (0) ?_ ?_
      · refine ⟨(((((Fr.nil hF).c hF (i := 12) rfl rfl).c hF (i := 10) rfl rfl).c hF (i := 8) rfl rfl).c hF (i := 13) rfl (vi (show (0 : Int) = (0 : Int) from by omega))), (hM.sub ((((Sub.nil.c (k := 10) rfl rfl).c (k := 8) rfl rfl).c (k := 2) rfl rfl).c (k := 1) rfl rfl)), (show (0 : Int) ≤ (lcf.length : Int) from by omega)⟩
      · intro gg a w hI
        intro K26 hK26
        obtain ⟨k, rfl⟩ : ∃ x, x = gg := ⟨_, rfl⟩
        try dsimp only at hI hK26
        obtain ⟨hF, hM, hz6⟩ := hI
        refine wp_seq_k fun K27 hK27 => ?_
        refine wp_seq_k fun K28 hK28 => ?_
        refine wp_region_lit ?_
        refine sB 4 [(53, .int .i64 (k : Int)), (54, .slice AA6 lcf.length cc6), (55, .int .i64 (lcf.length : Int)), (56, .bool (decide ((k : Int) < (lcf.length : Int))))] hF (by kernel_rfl) fun a hF => ?_
        refine wpList_nil ?_
        refine hK28 _ _ ?_
        by_cases hz7 : (k : Int) < (lcf.length : Int)
        · skip
          replace hF := hF.c hF (i := 56) (v := .bool true) rfl (bT hz7)
          refine cT hF (by kernel_rfl) (by kernel_rfl) ?_
          refine wp_skip ?_
          refine hK27 _ _ ?_
          refine wp_seq_k fun K29 hK29 => ?_
          refine wp_block ?_
          refine wp_seq_k fun K30 hK30 => ?_
          have hz0 : nt (mrunF pcb pcr ppb pps lcf) k = 0 := by rw [all_green (by rw [e_pcb, e_pcr]; exact cf_lcf) hz1]; exact nt_rep _ _
          refine wp_region_lit ?_
          refine sB 4 [(59, .bool true), (60, .bool true), (61, .slice AA6 lcf.length cc6), (62, .int .i64 (k : Int))] hF (by kernel_rfl) fun a hF => ?_
          refine wl (eM 63 (v := .pointer (some (ea AA6 (k)))) hF hM (by kernel_rfl) (yld_ix (kd := .i64) (e := 3) (len := lcf.length) (cap := cc6) (i := (k : Int)) (size := 1) (A := AA6) hF rfl (by kernel_rfl) (by kernel_rfl) (by kernel_rfl) (by kernel_rfl) (by kernel_rfl) (roO 8 rfl) (by omega) (by omega) (by (try simp only [List.length_map, List.length_append, List.length_replicate, List.length_set, List.length_cons, List.length_nil, flat2_length, List.length_take]); omega)) fun a w hF hM => ?_)
          refine wl (eM 64 (v := .int .i64 (nt (mrunF pcb pcr ppb pps lcf) k)) hF hM (by kernel_rfl) (yld_ro1 (A := AA6) (j := k) hF rfl (by kernel_rfl) (by kernel_rfl) (roO 8 rfl) (by kernel_rfl) (nt_at (by (try simp only [List.length_map, List.length_append, List.length_replicate, List.length_set, List.length_cons, List.length_nil, flat2_length, List.length_take]); omega))) fun a w hF hM => ?_)
          refine wl (eP 65 (v0 := .bool (!decide (nt (mrunF pcb pcr ppb pps lcf) k = 0))) (v := .bool false) hF (by kernel_rfl) (fun _ => by kernel_rfl) (nT hz0) fun a hF => ?_)
          refine sB 1 [(66, .bool false)] hF (by kernel_rfl) fun a hF => ?_
          refine wpList_nil ?_
          refine hK30 _ _ ?_
          refine cF hF (by kernel_rfl) (by kernel_rfl) ?_
          refine wp_skip ?_
          refine hK29 _ _ ?_
          refine wp_region_lit ?_
          refine sB 1 [(57, .int .i64 (k : Int))] hF (by kernel_rfl) fun a hF => ?_
          refine wl (eP 58 (v0 := .int .i64 (IntKind.i64.wrap ((k : Int) + 1))) (v := .int .i64 ((k : Int) + 1)) hF (by kernel_rfl) (fun _ => by kernel_rfl) (wi (by omega)) fun a hF => ?_)
          refine sB 1 [(13, .int .i64 ((k : Int) + 1))] hF (by kernel_rfl) fun a hF => ?_
          refine wpList_nil ?_
          refine hK26 _ _ ⟨(k + 1), ⟨(((((Fr.nil hF).c hF (i := 12) rfl rfl).c hF (i := 10) rfl rfl).c hF (i := 8) rfl rfl).c hF (i := 13) rfl (vi (show ((k : Int) + 1 : Int) = ((k + 1) : Int) from by omega))), (hM.sub ((((Sub.nil.c (k := 10) rfl rfl).c (k := 8) rfl rfl).c (k := 2) rfl rfl).c (k := 1) rfl rfl)), (show ((k + 1) : Int) ≤ (lcf.length : Int) from by omega)⟩, (show lcf.length - (k + 1) < lcf.length - k from by omega)⟩
        · skip
          replace hF := hF.c hF (i := 56) (v := .bool false) rfl (bF hz7)
          refine cF hF (by kernel_rfl) (by kernel_rfl) ?_
          refine wp_exit ?_
          refine hK11 _ _ ?_
          refine wp_seq_k fun K31 hK31 => ?_
          refine wp_seq_k fun K32 hK32 => ?_
          refine wp_region_lit ?_
          refine sB 1 [(14, .int .i64 0)] hF (by kernel_rfl) fun a hF => ?_
          refine wpList_nil ?_
          refine hK32 _ _ ?_
          refine wp_block ?_
          refine wp_loop_k (G := Nat) (fun gg a w => Fr 78 [(14, some (.int .i64 (gg : Int))), (10, some (.slice AA8 ltr.length cc8))] a ∧ Mem w0.heap.size w0 [(1, some (.ro Ga (gaps.map (Value.int .u16)))), (2, some (.ro Sa (sizes.map (Value.int .u16)))), (10, some (.own (.slice AA8 ltr.length cc8) 3 1 ltr.length ((mrunF pcb pcr pcb pcr ltr).map (Value.int .i64))))] w ∧ ((gg : Int) ≤ (ltr.length : Int))) (fun gg => ltr.length - gg) (0) ?_ ?_
          · refine ⟨(((Fr.nil hF).c hF (i := 10) rfl rfl).c hF (i := 14) rfl (vi (show (0 : Int) = (0 : Int) from by omega))), (hM.sub (((Sub.nil.c (k := 10) rfl rfl).c (k := 2) rfl rfl).c (k := 1) rfl rfl)), (show (0 : Int) ≤ (ltr.length : Int) from by omega)⟩
          · intro gg a w hI
            intro K33 hK33
            obtain ⟨k, rfl⟩ : ∃ x, x = gg := ⟨_, rfl⟩
            try dsimp only at hI hK33
            obtain ⟨hF, hM, hz8⟩ := hI
            refine wp_seq_k fun K34 hK34 => ?_
            refine wp_seq_k fun K35 hK35 => ?_
            refine wp_region_lit ?_
            refine sB 4 [(67, .int .i64 (k : Int)), (68, .slice AA8 ltr.length cc8), (69, .int .i64 (ltr.length : Int)), (70, .bool (decide ((k : Int) < (ltr.length : Int))))] hF (by kernel_rfl) fun a hF => ?_
            refine wpList_nil ?_
            refine hK35 _ _ ?_
            by_cases hz9 : (k : Int) < (ltr.length : Int)
            · skip
              replace hF := hF.c hF (i := 70) (v := .bool true) rfl (bT hz9)
              refine cT hF (by kernel_rfl) (by kernel_rfl) ?_
              refine wp_skip ?_
              refine hK34 _ _ ?_
              refine wp_seq_k fun K36 hK36 => ?_
              refine wp_block ?_
              refine wp_seq_k fun K37 hK37 => ?_
              have hz1 : ¬ nt (mrunF pcb pcr pcb pcr ltr) k = 1 := not_yellow (by omega)
              refine wp_region_lit ?_
              refine sB 2 [(73, .slice AA8 ltr.length cc8), (74, .int .i64 (k : Int))] hF (by kernel_rfl) fun a hF => ?_
              refine wl (eM 75 (v := .pointer (some (ea AA8 (k)))) hF hM (by kernel_rfl) (yld_ix (kd := .i64) (e := 3) (len := ltr.length) (cap := cc8) (i := (k : Int)) (size := 1) (A := AA8) hF rfl (by kernel_rfl) (by kernel_rfl) (by kernel_rfl) (by kernel_rfl) (by kernel_rfl) (roO 10 rfl) (by omega) (by omega) (by (try simp only [List.length_map, List.length_append, List.length_replicate, List.length_set, List.length_cons, List.length_nil, flat2_length, List.length_take]); omega)) fun a w hF hM => ?_)
              refine wl (eM 76 (v := .int .i64 (nt (mrunF pcb pcr pcb pcr ltr) k)) hF hM (by kernel_rfl) (yld_ro1 (A := AA8) (j := k) hF rfl (by kernel_rfl) (by kernel_rfl) (roO 10 rfl) (by kernel_rfl) (nt_at (by (try simp only [List.length_map, List.length_append, List.length_replicate, List.length_set, List.length_cons, List.length_nil, flat2_length, List.length_take]); omega))) fun a w hF hM => ?_)
              refine wl (eP 77 (v0 := .bool (decide (nt (mrunF pcb pcr pcb pcr ltr) k = 1))) (v := .bool false) hF (by kernel_rfl) (fun _ => by kernel_rfl) (bF hz1) fun a hF => ?_)
              refine wpList_nil ?_
              refine hK37 _ _ ?_
              refine cF hF (by kernel_rfl) (by kernel_rfl) ?_
              refine wp_skip ?_
              refine hK36 _ _ ?_
              refine wp_region_lit ?_
              refine sB 1 [(71, .int .i64 (k : Int))] hF (by kernel_rfl) fun a hF => ?_
              refine wl (eP 72 (v0 := .int .i64 (IntKind.i64.wrap ((k : Int) + 1))) (v := .int .i64 ((k : Int) + 1)) hF (by kernel_rfl) (fun _ => by kernel_rfl) (wi (by omega)) fun a hF => ?_)
              refine sB 1 [(14, .int .i64 ((k : Int) + 1))] hF (by kernel_rfl) fun a hF => ?_
              refine wpList_nil ?_
              refine hK33 _ _ ⟨(k + 1), ⟨(((Fr.nil hF).c hF (i := 10) rfl rfl).c hF (i := 14) rfl (vi (show ((k : Int) + 1 : Int) = ((k + 1) : Int) from by omega))), (hM.sub (((Sub.nil.c (k := 10) rfl rfl).c (k := 2) rfl rfl).c (k := 1) rfl rfl)), (show ((k + 1) : Int) ≤ (ltr.length : Int) from by omega)⟩, (show ltr.length - (k + 1) < ltr.length - k from by omega)⟩
            · skip
              replace hF := hF.c hF (i := 70) (v := .bool false) rfl (bF hz9)
              refine cF hF (by kernel_rfl) (by kernel_rfl) ?_
              refine wp_exit ?_
              refine hK31 _ _ ?_
              refine wp_seq_k fun K38 hK38 => ?_
              refine wp_region_lit ?_
              refine sB 1 [(4, .bool true)] hF (by kernel_rfl) fun a hF => ?_
              refine wpList_nil ?_
              refine hK38 _ _ ?_
              refine wp_ret ?_
              refine hR0 _ _ ?_
              refine ret_of hF hM (.tmp rfl (.nil)) ?_
              exact ⟨rfl, hM.bel⟩

end Go.Proofs.Ytncllmponigkgaa
