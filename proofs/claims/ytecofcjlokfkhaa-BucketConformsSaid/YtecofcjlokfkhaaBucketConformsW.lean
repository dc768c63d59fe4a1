/-
  The walk of BucketConforms.
-/
import Derived.Test.YtecofcjlokfkhaaBkD
import Derived.Test.YtecofcjlokfkhaaCfTrW
namespace Go.Proofs.Ytecofcjlokfkhaa
open Go.RowKit
set_option linter.unusedVariables false
set_option linter.unusedSimpArgs false

set_option maxRecDepth 100000 in
set_option maxHeartbeats 4000000 in
theorem bucketConforms_walk (b0 b1 : Int) (A : Option Addr) (l : List (Int × Int)) (c : Nat) (bu ra : Int) (Ga : Option Addr) (gaps : List Int) (cg : Nat) (Sa : Option Addr) (sizes : List Int) (cs : Nat) (ax ay at_ : Int) (w0 : World) (hA : Ro w0 A (flat2 l)) (hlc : l.length ≤ c) (hc : c ≤ 9223372036854775807) (hGa : Ro w0 Ga (gaps.map (Value.int .u16))) (hSa : Ro w0 Sa (sizes.map (Value.int .u16))) (hg : All16 gaps) (hs : All16 sizes) (hmg : gaps.length ≤ 9223372036854775807) (hms : sizes.length ≤ 9223372036854775807) (h : 0 ≤ bu ∧ bu < 4294967296 ∧ 0 ≤ ra ∧ ra < 4294967296 ∧ 0 ≤ at_ ∧ at_ < 256) :
    Calls Try.prog 4 #[.agg #[.int .i64 b0, .int .i64 b1], .slice A l.length c, .agg #[.int .u32 bu, .int .u32 ra, .slice Ga gaps.length cg, .slice Sa sizes.length cs], .agg #[.int .i64 ax, .int .i64 ay], .int .u8 at_] w0 (Ret w0 (.bool true)) := by
  refine enterK 114 Try.func4 rfl rfl rfl ?_
  intro a hF Q0 hR0 hN0
  have hM := Mem.start w0
  replace hM := hM.addOld 1 hGa (Nat.le_refl _)
  replace hM := hM.addOld 2 hSa (Nat.le_refl _)
  replace hM := hM.addOld 3 hA (Nat.le_refl _)
  refine wp_seq_k fun K1 hK1 => ?_
  refine wp_region_lit ?_
  refine wl (eN 5 4 (t := 23) (fun b => .pointer (some ⟨b, 0, none⟩)) #[.int .i64 b0, .int .i64 b1] hF hM (by kernel_rfl) (fun _ => by kernel_rfl) fun bb1 a w hF hM => ?_)
  refine wl (eN 7 5 (t := 27) (fun b => .pointer (some ⟨b, 0, none⟩)) #[.int .u32 bu, .int .u32 ra, .slice Ga gaps.length cg, .slice Sa sizes.length cs] hF hM (by kernel_rfl) (fun _ => by kernel_rfl) fun bb2 a w hF hM => ?_)
  refine wl (eN 8 6 (t := 30) (fun b => .pointer (some ⟨b, 0, none⟩)) #[.int .i64 ax, .int .i64 ay] hF hM (by kernel_rfl) (fun _ => by kernel_rfl) fun bb3 a w hF hM => ?_)
  refine sB 1 [(10, .bool false)] hF (by kernel_rfl) fun a hF => ?_
  refine wpList_nil ?_
  refine hK1 _ _ ?_
  refine wp_seq_k fun K2 hK2 => ?_
  refine wp_region_lit ?_
  refine sB 3 [(27, .slice A l.length c), (28, .slice A l.length c), (29, .int .i64 (l.length : Int))] hF (by kernel_rfl) fun a hF => ?_
  refine wl (eP 30 (v0 := .int .i64 (if 40 < (l.length : Int) then 40 else (l.length : Int))) (v := .int .i64 (min (l.length : Int) 40)) hF (by kernel_rfl) (fun _ => by kernel_rfl) (vi (min_if _ _)) fun a hF => ?_)
  obtain ⟨lsl, e_lsl⟩ : ∃ x : List (Int × Int), x = l.take ((min (l.length : Int) 40).toNat) := ⟨_, rfl⟩
  have len_lsl : (lsl.length : Int) = min (l.length : Int) 40 := by rw [e_lsl, List.length_take]; omega
  replace hM := hM.roMore 7 3 (xs' := (flat2 lsl)) rfl (by rw [e_lsl]; exact flat2_sub _ _)
  refine wl (eM 31 (v := .slice A lsl.length c) hF hM (by kernel_rfl) (yld_slice0 (e := 30) (len := l.length) (cap := c) (m := lsl.length) (A := A) (i := min (l.length : Int) 40) hF rfl (by kernel_rfl) (by kernel_rfl) (by kernel_rfl) (by kernel_rfl) (by kernel_rfl) (by omega) (by omega)) fun a w hF hM => ?_)
  refine sB 1 [(1, .slice A lsl.length c)] hF (by kernel_rfl) fun a hF => ?_
  refine wpList_nil ?_
  refine hK2 _ _ ?_
  refine wp_seq_k fun K3 hK3 => ?_
  obtain ⟨dbb, e_dbb⟩ : ∃ x : Int, x = 1 + bu % 1048576 := ⟨_, rfl⟩
  obtain ⟨dbr, e_dbr⟩ : ∃ x : Int, x = 1 + ra % 2097152 := ⟨_, rfl⟩
  have hdb : bkE dbb dbr = 0 := by unfold bkE; omega
  have := bkE_ok hdb
  obtain ⟨ltr, e_ltr⟩ : ∃ x : List (Int × Int), x = drTrace gaps sizes := ⟨_, rfl⟩
  have tr_ltr : trE ltr = 0 := by rw [e_ltr]; exact dr_trE hg hs
  have le_ltr : ltr.length ≤ 30 := by rw [e_ltr]; exact dr_le _ _
  obtain ⟨lcf, e_lcf⟩ : ∃ x : List (Int × Int), x = cfDr bu ra gaps sizes := ⟨_, rfl⟩
  have cf_lcf : cfB (1 + bu % 1048576) (1 + ra % 2097152) lcf = true := by rw [e_lcf]; exact cfTr_cf (by unfold bkE; omega) (dr_trE hg hs)
  have tr_lcf : trE lcf = 0 := ckE_tr (cf_iff.1 cf_lcf).1
  have le_lcf : lcf.length ≤ 30 := by rw [e_lcf]; exact Nat.le_trans (cfTr_le (by unfold bkE; omega) (dr_trE hg hs)) (dr_le _ _)
  have pr_lcf : ∀ k, k < lcf.length → 0 ≤ (pr lcf k).1 ∧ (pr lcf k).1 ≤ 1966050 ∧ 1 ≤ (pr lcf k).2 ∧ (pr lcf k).2 ≤ 65536 := by rw [e_lcf]; exact fun k hk => cfTr_pr (p := fun x => 0 ≤ x.1 ∧ x.1 ≤ 1966050 ∧ 1 ≤ x.2 ∧ x.2 ≤ 65536) (by unfold bkE; omega) (dr_trE hg hs) (fun j hj => dr_pr hg hs hj) hk
  refine rF (by kernel_rfl) (by kernel_rfl) (fun S a w => ∃ AA4 : Option Addr, ∃ cc4 : Nat, ∃ AA5 : Option Addr, ∃ cc5 : Nat, ∃ bb6 : Nat, Fr 114 [(1, some (.slice A lsl.length c)), (4, some (.int .u8 at_)), (5, some (.pointer (some ⟨bb1, 0, none⟩))), (7, some (.pointer (some ⟨bb2, 0, none⟩))), (8, some (.pointer (some ⟨bb3, 0, none⟩))), (10, some (.bool false)), (11, (cond (S.getD 6 false) (some (.pointer (some ⟨bb6, 0, none⟩))) none)), (12, (cond (S.getD 8 false) (some (.slice AA4 ltr.length cc4)) none)), (13, (cond (S.getD 9 false) (some (.slice AA5 lcf.length cc5)) none)), (32, (cond (S.getD 0 false) (some (.agg #[.int .u32 bu, .int .u32 ra, .slice Ga gaps.length cg, .slice Sa sizes.length cs])) none)), (33, (cond (S.getD 1 false) (some (.agg #[.int .i64 dbb, .int .i64 dbr])) none)), (34, (cond (S.getD 2 false) (some (.agg #[.int .u32 bu, .int .u32 ra, .slice Ga gaps.length cg, .slice Sa sizes.length cs])) none)), (35, (cond (S.getD 3 false) (some (.slice AA4 ltr.length cc4)) none)), (36, (cond (S.getD 4 false) (some (.agg #[.int .u32 bu, .int .u32 ra, .slice Ga gaps.length cg, .slice Sa sizes.length cs])) none)), (37, (cond (S.getD 5 false) (some (.slice AA5 lcf.length cc5)) none))] a ∧ Mem w0.heap.size w0 [(1, some (.ro Ga (gaps.map (Value.int .u16)))), (2, some (.ro Sa (sizes.map (Value.int .u16)))), (3, some (.ro A (flat2 l))), (4, some (.row bb1 23 #[.int .i64 b0, .int .i64 b1])), (5, some (.row bb2 27 #[.int .u32 bu, .int .u32 ra, .slice Ga gaps.length cg, .slice Sa sizes.length cs])), (6, some (.row bb3 30 #[.int .i64 ax, .int .i64 ay])), (7, some (.ro A (flat2 lsl))), (8, (cond (S.getD 3 false) (some (.own (.slice AA4 ltr.length cc4) 30 2 ltr.length (flat2 ltr))) none)), (9, (cond (S.getD 5 false) (some (.own (.slice AA5 lcf.length cc5) 30 2 lcf.length (flat2 lcf))) none)), (10, (cond (S.getD 7 false) (some (.row bb6 23 #[.int .i64 dbb, .int .i64 dbr])) (cond (S.getD 6 false) (some (.row bb6 23 #[.int .i64 0, .int .i64 0])) none)))] w) ?_ ?_ ?_
  · exact ⟨none, 0, none, 0, 0, ((((((((((((((((Fr.nil hF).co hF (i := 37) (by kernel_rfl)).co hF (i := 36) (by kernel_rfl)).co hF (i := 35) (by kernel_rfl)).co hF (i := 34) (by kernel_rfl)).co hF (i := 33) (by kernel_rfl)).co hF (i := 32) (by kernel_rfl)).co hF (i := 13) (by kernel_rfl)).co hF (i := 12) (by kernel_rfl)).co hF (i := 11) (by kernel_rfl)).co hF (i := 10) (by kernel_rfl)).co hF (i := 8) (by kernel_rfl)).co hF (i := 7) (by kernel_rfl)).co hF (i := 5) (by kernel_rfl)).co hF (i := 4) (by kernel_rfl)).co hF (i := 1) (by kernel_rfl)), hM.drew.sub ((((((((((Sub.nil.co (k := 10) (by kernel_rfl)).co (k := 9) (by kernel_rfl)).co (k := 8) (by kernel_rfl)).co (k := 7) (by kernel_rfl)).co (k := 6) (by kernel_rfl)).co (k := 5) (by kernel_rfl)).co (k := 4) (by kernel_rfl)).co (k := 3) (by kernel_rfl)).co (k := 2) (by kernel_rfl)).co (k := 1) (by kernel_rfl))⟩
  · refine stC ?_ (stC ?_ (stC ?_ (stC ?_ (stC ?_ (stC ?_ (stC ?_ (stC ?_ (stC ?_ (stC ?_ (trivial))))))))))
    · intro s0 s1 s2 s3 s4 s5 s6 s7 s8 s9 hc hi hp a w hS
      obtain rfl : s0 = false := hi
      obtain ⟨AA4, cc4, AA5, cc5, bb6, hF, hM⟩ := hS
      refine eL 32 5 0 (v := .agg #[.int .u32 bu, .int .u32 ra, .slice Ga gaps.length cg, .slice Sa sizes.length cs]) hF hM (by kernel_rfl) rfl rfl (by kernel_rfl) (by kernel_rfl) fun a w hF hM => ?_
      exact ⟨AA4, cc4, AA5, cc5, bb6, ((hF.repl 9 (by kernel_rfl)).cast (by kernel_rfl)), (hM.cast (by kernel_rfl))⟩
    · intro s0 s1 s2 s3 s4 s5 s6 s7 s8 s9 hc hi hp a w hS
      obtain rfl : s1 = false := hi
      obtain rfl : s0 = true := hp 0 (by kernel_rfl)
      obtain ⟨AA4, cc4, AA5, cc5, bb6, hF, hM⟩ := hS
      refine eM 33 (v := .agg #[.int .i64 dbb, .int .i64 dbr]) hF hM (by kernel_rfl) (yld_call (f := 10) (args := #[.agg #[.int .u32 bu, .int .u32 ra, .slice Ga gaps.length cg, .slice Sa sizes.length cs]]) hF (by kernel_rfl) (fun _ => by kernel_rfl) (fun w hM => by rw [e_dbb, e_dbr]; exact draftBucket_w bu ra (.slice Ga gaps.length cg) (.slice Sa sizes.length cs) w (by omega))) fun a w hF hM => ?_
      exact ⟨AA4, cc4, AA5, cc5, bb6, ((hF.repl 10 (by kernel_rfl)).cast (by kernel_rfl)), (hM.cast (by kernel_rfl))⟩
    · intro s0 s1 s2 s3 s4 s5 s6 s7 s8 s9 hc hi hp a w hS
      obtain rfl : s2 = false := hi
      obtain ⟨AA4, cc4, AA5, cc5, bb6, hF, hM⟩ := hS
      refine eL 34 5 0 (v := .agg #[.int .u32 bu, .int .u32 ra, .slice Ga gaps.length cg, .slice Sa sizes.length cs]) hF hM (by kernel_rfl) rfl rfl (by kernel_rfl) (by kernel_rfl) fun a w hF hM => ?_
      exact ⟨AA4, cc4, AA5, cc5, bb6, ((hF.repl 11 (by kernel_rfl)).cast (by kernel_rfl)), (hM.cast (by kernel_rfl))⟩
    · intro s0 s1 s2 s3 s4 s5 s6 s7 s8 s9 hc hi hp a w hS
      obtain rfl : s3 = false := hi
      obtain rfl : s2 = true := hp 2 (by kernel_rfl)
      obtain rfl : s8 = false := hc.f 8 3 (by kernel_rfl) rfl
      obtain ⟨AA4, cc4, AA5, cc5, bb6, hF, hM⟩ := hS
      refine sOwn 8 (f := 17) (args := #[.agg #[.int .u32 bu, .int .u32 ra, .slice Ga gaps.length cg, .slice Sa sizes.length cs]]) (mk := fun v => v) (e := 30) (size := 2) (m := ltr.length) (xs := (flat2 ltr)) hF hM (by kernel_rfl) rfl (by decide) (by kernel_rfl) (fun _ => by kernel_rfl) (by rw [e_ltr]; exact draftTrace_w bu ra Ga gaps cg Sa sizes cs w (hM.ok 1 _ rfl) (hM.ok 2 _ rfl) hg hs (by omega) (by omega)) fun AA4 cc4 a w hF hM => ?_
      exact ⟨AA4, cc4, AA5, cc5, bb6, ((hF.repl 12 (by kernel_rfl)).cast (by kernel_rfl)), ((hM.repl 7 (by kernel_rfl)).cast (by kernel_rfl))⟩
    · intro s0 s1 s2 s3 s4 s5 s6 s7 s8 s9 hc hi hp a w hS
      obtain rfl : s4 = false := hi
      obtain ⟨AA4, cc4, AA5, cc5, bb6, hF, hM⟩ := hS
      refine eL 36 5 0 (v := .agg #[.int .u32 bu, .int .u32 ra, .slice Ga gaps.length cg, .slice Sa sizes.length cs]) hF hM (by kernel_rfl) rfl rfl (by kernel_rfl) (by kernel_rfl) fun a w hF hM => ?_
      exact ⟨AA4, cc4, AA5, cc5, bb6, ((hF.repl 13 (by kernel_rfl)).cast (by kernel_rfl)), (hM.cast (by kernel_rfl))⟩
    · intro s0 s1 s2 s3 s4 s5 s6 s7 s8 s9 hc hi hp a w hS
      obtain rfl : s5 = false := hi
      obtain rfl : s4 = true := hp 4 (by kernel_rfl)
      obtain rfl : s9 = false := hc.f 9 5 (by kernel_rfl) rfl
      obtain ⟨AA4, cc4, AA5, cc5, bb6, hF, hM⟩ := hS
      refine sOwn 9 (f := 22) (args := #[.agg #[.int .u32 bu, .int .u32 ra, .slice Ga gaps.length cg, .slice Sa sizes.length cs]]) (mk := fun v => v) (e := 30) (size := 2) (m := lcf.length) (xs := (flat2 lcf)) hF hM (by kernel_rfl) rfl (by decide) (by kernel_rfl) (fun _ => by kernel_rfl) (by rw [e_lcf]; exact conforming_w bu ra Ga gaps cg Sa sizes cs w (hM.ok 1 _ rfl) (hM.ok 2 _ rfl) hg hs (by omega) (by omega) (by omega)) fun AA5 cc5 a w hF hM => ?_
      exact ⟨AA4, cc4, AA5, cc5, bb6, ((hF.repl 14 (by kernel_rfl)).cast (by kernel_rfl)), ((hM.repl 8 (by kernel_rfl)).cast (by kernel_rfl))⟩
    · intro s0 s1 s2 s3 s4 s5 s6 s7 s8 s9 hc hi hp a w hS
      obtain rfl : s6 = false := hi
      obtain rfl : s7 = false := hc.f 7 6 (by kernel_rfl) rfl
      obtain ⟨AA4, cc4, AA5, cc5, bb6, hF, hM⟩ := hS
      refine eN 11 10 (t := 23) (fun b => .pointer (some ⟨b, 0, none⟩)) #[.int .i64 0, .int .i64 0] hF hM (by kernel_rfl) (fun _ => by kernel_rfl) fun bb6 a w hF hM => ?_
      exact ⟨AA4, cc4, AA5, cc5, bb6, ((hF.repl 6 (by kernel_rfl)).cast (by kernel_rfl)), ((hM.repl 9 (by kernel_rfl)).cast (by kernel_rfl))⟩
    · intro s0 s1 s2 s3 s4 s5 s6 s7 s8 s9 hc hi hp a w hS
      obtain rfl : s7 = false := hi
      obtain rfl : s6 = true := hp 6 (by kernel_rfl)
      obtain rfl : s1 = true := hp 1 (by kernel_rfl)
      obtain ⟨AA4, cc4, AA5, cc5, bb6, hF, hM⟩ := hS
      refine sStore (i := 10) (off := 0) (cs' := #[.int .i64 dbb, .int .i64 dbr]) hF hM (by kernel_rfl) rfl rfl (by kernel_rfl) (by kernel_rfl) rfl (by kernel_rfl) fun w hM => ?_
      exact ⟨AA4, cc4, AA5, cc5, bb6, (hF.cast (by kernel_rfl)), ((hM.repl 9 (by kernel_rfl)).cast (by kernel_rfl))⟩
    · intro s0 s1 s2 s3 s4 s5 s6 s7 s8 s9 hc hi hp a w hS
      obtain rfl : s8 = false := hi
      obtain rfl : s3 = true := hp 3 (by kernel_rfl)
      obtain ⟨AA4, cc4, AA5, cc5, bb6, hF, hM⟩ := hS
      refine eP 12 (v0 := .slice AA4 ltr.length cc4) (v := .slice AA4 ltr.length cc4) hF (by kernel_rfl) (fun _ => by kernel_rfl) rfl fun a hF => ?_
      exact ⟨AA4, cc4, AA5, cc5, bb6, ((hF.repl 7 (by kernel_rfl)).cast (by kernel_rfl)), (hM.cast (by kernel_rfl))⟩
    · intro s0 s1 s2 s3 s4 s5 s6 s7 s8 s9 hc hi hp a w hS
      obtain rfl : s9 = false := hi
      obtain rfl : s5 = true := hp 5 (by kernel_rfl)
      obtain ⟨AA4, cc4, AA5, cc5, bb6, hF, hM⟩ := hS
      refine eP 13 (v0 := .slice AA5 lcf.length cc5) (v := .slice AA5 lcf.length cc5) hF (by kernel_rfl) (fun _ => by kernel_rfl) rfl fun a hF => ?_
      exact ⟨AA4, cc4, AA5, cc5, bb6, ((hF.repl 8 (by kernel_rfl)).cast (by kernel_rfl)), (hM.cast (by kernel_rfl))⟩
  · intro a w hS
    obtain ⟨AA4, cc4, AA5, cc5, bb6, hF, hM⟩ := hS
    replace hF : Fr 114 [(1, some (.slice A lsl.length c)), (4, some (.int .u8 at_)), (5, some (.pointer (some ⟨bb1, 0, none⟩))), (7, some (.pointer (some ⟨bb2, 0, none⟩))), (8, some (.pointer (some ⟨bb3, 0, none⟩))), (10, some (.bool false)), (11, some (.pointer (some ⟨bb6, 0, none⟩))), (12, some (.slice AA4 ltr.length cc4)), (13, some (.slice AA5 lcf.length cc5)), (32, some (.agg #[.int .u32 bu, .int .u32 ra, .slice Ga gaps.length cg, .slice Sa sizes.length cs])), (33, some (.agg #[.int .i64 dbb, .int .i64 dbr])), (34, some (.agg #[.int .u32 bu, .int .u32 ra, .slice Ga gaps.length cg, .slice Sa sizes.length cs])), (35, some (.slice AA4 ltr.length cc4)), (36, some (.agg #[.int .u32 bu, .int .u32 ra, .slice Ga gaps.length cg, .slice Sa sizes.length cs])), (37, some (.slice AA5 lcf.length cc5))] a := hF.cast (by kernel_rfl)
    replace hM : Mem w0.heap.size w0 [(1, some (.ro Ga (gaps.map (Value.int .u16)))), (2, some (.ro Sa (sizes.map (Value.int .u16)))), (3, some (.ro A (flat2 l))), (4, some (.row bb1 23 #[.int .i64 b0, .int .i64 b1])), (5, some (.row bb2 27 #[.int .u32 bu, .int .u32 ra, .slice Ga gaps.length cg, .slice Sa sizes.length cs])), (6, some (.row bb3 30 #[.int .i64 ax, .int .i64 ay])), (7, some (.ro A (flat2 lsl))), (8, some (.own (.slice AA4 ltr.length cc4) 30 2 ltr.length (flat2 ltr))), (9, some (.own (.slice AA5 lcf.length cc5) 30 2 lcf.length (flat2 lcf))), (10, some (.row bb6 23 #[.int .i64 dbb, .int .i64 dbr]))] w := hM.cast (by kernel_rfl)
    refine hK3 _ _ ?_
    refine wp_seq_k fun K4 hK4 => ?_
    refine wp_region_lit ?_
    refine wl (eL 38 10 0 (v := .agg #[.int .i64 dbb, .int .i64 dbr]) hF hM (by kernel_rfl) rfl rfl (by kernel_rfl) (by kernel_rfl) fun a w hF hM => ?_)
    refine wl (eN 14 11 (t := 23) (fun b => .pointer (some ⟨b, 0, none⟩)) #[.int .i64 0, .int .i64 0] hF hM (by kernel_rfl) (fun _ => by kernel_rfl) fun bb7 a w hF hM => ?_)
    refine wl (sStore (i := 11) (off := 0) (cs' := #[.int .i64 dbb, .int .i64 dbr]) hF hM (by kernel_rfl) rfl rfl (by kernel_rfl) (by kernel_rfl) rfl (by kernel_rfl) fun w hM => ?_)
    refine wpList_nil ?_
    refine hK4 _ _ ?_
    refine wp_seq_k fun K5 hK5 => ?_
    refine wp_region_lit ?_
    refine sB 1 [(39, .pointer (some ⟨bb6, 0, none⟩))] hF (by kernel_rfl) fun a hF => ?_
    refine wl (eL 40 10 0 (v := .int .i64 dbb) hF hM (by kernel_rfl) rfl rfl (by kernel_rfl) (by kernel_rfl) fun a w hF hM => ?_)
    refine sB 1 [(41, .int .u8 at_)] hF (by kernel_rfl) fun a hF => ?_
    refine wl (eP 42 (v0 := .int .i64 (IntKind.i64.wrap at_)) (v := .int .i64 at_) hF (by kernel_rfl) (fun _ => by kernel_rfl) (vi (IntWalk.i64_in _ (by omega))) fun a hF => ?_)
    refine wl (eP 43 (v0 := .int .i64 (IntKind.i64.wrap (dbb - at_))) (v := .int .i64 (dbb - at_)) hF (by kernel_rfl) (fun _ => by kernel_rfl) (wi (by omega)) fun a hF => ?_)
    refine wl (eP 44 (v0 := .int .i64 (if dbb - at_ > 1 then dbb - at_ else 1)) (v := .int .i64 (max 1 (dbb - at_))) hF (by kernel_rfl) (fun _ => by kernel_rfl) (vi (max_if _ _)) fun a hF => ?_)
    refine sB 1 [(45, .pointer (some ⟨bb7, 0, none⟩))] hF (by kernel_rfl) fun a hF => ?_
    refine wl (sStore (i := 11) (off := 0) (cs' := #[.int .i64 (max 1 (dbb - at_)), .int .i64 dbr]) hF hM (by kernel_rfl) rfl rfl (by kernel_rfl) (by kernel_rfl) rfl (by kernel_rfl) fun w hM => ?_)
    refine wpList_nil ?_
    refine hK5 _ _ ?_
    refine wp_seq_k fun K6 hK6 => ?_
    refine wp_seq_k fun K7 hK7 => ?_
    refine wp_region_lit ?_
    refine wl (eL 46 4 0 (v := .agg #[.int .i64 b0, .int .i64 b1]) hF hM (by kernel_rfl) rfl rfl (by kernel_rfl) (by kernel_rfl) fun a w hF hM => ?_)
    refine wl (eL 47 10 0 (v := .agg #[.int .i64 dbb, .int .i64 dbr]) hF hM (by kernel_rfl) rfl rfl (by kernel_rfl) (by kernel_rfl) fun a w hF hM => ?_)
    refine wl (eL 48 11 0 (v := .agg #[.int .i64 (max 1 (dbb - at_)), .int .i64 dbr]) hF hM (by kernel_rfl) rfl rfl (by kernel_rfl) (by kernel_rfl) fun a w hF hM => ?_)
    refine sB 1 [(49, .pointer (some ⟨bb6, 0, none⟩))] hF (by kernel_rfl) fun a hF => ?_
    refine wl (eL 50 10 0 (v := .int .i64 dbb) hF hM (by kernel_rfl) rfl rfl (by kernel_rfl) (by kernel_rfl) fun a w hF hM => ?_)
    refine sB 1 [(51, .pointer (some ⟨bb1, 1, none⟩))] hF (by kernel_rfl) fun a hF => ?_
    refine wl (eL 52 4 1 (v := .int .i64 b1) hF hM (by kernel_rfl) rfl rfl (by kernel_rfl) (by kernel_rfl) fun a w hF hM => ?_)
    refine sB 3 [(53, .agg #[.int .i64 dbb, .int .i64 b1]), (54, .agg #[.int .i64 b0, .int .i64 b1, .int .i64 dbb, .int .i64 dbr, .int .i64 (max 1 (dbb - at_)), .int .i64 dbr, .int .i64 dbb, .int .i64 b1]), (55, .int .i64 0)] hF (by kernel_rfl) fun a hF => ?_
    refine wpList_nil ?_
    refine hK7 _ _ ?_
    refine wp_block ?_
    refine wp_loop_k (G := Nat) (fun gg a w => Fr 114 [(55, some (.int .i64 (gg : Int))), (1, some (.slice A lsl.length c)), (4, some (.int .u8 at_)), (8, some (.pointer (some ⟨bb3, 0, none⟩))), (12, some (.slice AA4 ltr.length cc4)), (13, some (.slice AA5 lcf.length cc5)), (54, some (.agg #[.int .i64 b0, .int .i64 b1, .int .i64 dbb, .int .i64 dbr, .int .i64 (max 1 (dbb - at_)), .int .i64 dbr, .int .i64 dbb, .int .i64 b1]))] a ∧ Mem w0.heap.size w0 [(1, some (.ro Ga (gaps.map (Value.int .u16)))), (2, some (.ro Sa (sizes.map (Value.int .u16)))), (3, some (.ro A (flat2 l))), (6, some (.row bb3 30 #[.int .i64 ax, .int .i64 ay])), (7, some (.ro A (flat2 lsl))), (8, some (.own (.slice AA4 ltr.length cc4) 30 2 ltr.length (flat2 ltr))), (9, some (.own (.slice AA5 lcf.length cc5) 30 2 lcf.length (flat2 lcf)))] w ∧ ((gg : Int) ≤ 4)) (fun gg => 4 - gg) (0) ?_ ?_
    · refine ⟨((((((((Fr.nil hF).c hF (i := 54) rfl rfl).c hF (i := 13) rfl rfl).c hF (i := 12) rfl rfl).c hF (i := 8) rfl rfl).c hF (i := 4) rfl rfl).c hF (i := 1) rfl rfl).c hF (i := 55) rfl (vi (show (0 : Int) = (0 : Int) from by omega))), (hM.sub (((((((Sub.nil.c (k := 9) rfl rfl).c (k := 8) rfl rfl).c (k := 7) rfl rfl).c (k := 6) rfl rfl).c (k := 3) rfl rfl).c (k := 2) rfl rfl).c (k := 1) rfl rfl)), (show (0 : Int) ≤ 4 from by omega)⟩
    · intro gg a w hI
      intro K8 hK8
      obtain ⟨k55, rfl⟩ : ∃ x, x = gg := ⟨_, rfl⟩
      try dsimp only at hI hK8
      obtain ⟨hF, hM, hz1⟩ := hI
      refine wp_seq_k fun K9 hK9 => ?_
      refine wp_region_lit ?_
      refine sB 1 [(56, .bool (decide ((k55 : Int) < 4)))] hF (by kernel_rfl) fun a hF => ?_
      refine wpList_nil ?_
      refine hK9 _ _ ?_
      refine wp_seq_k fun K10 hK10 => ?_
      by_cases hz2 : (k55 : Int) < 4
      · skip
        replace hF := hF.c hF (i := 56) (v := .bool true) rfl (bT hz2)
        refine cT hF (by kernel_rfl) (by kernel_rfl) ?_
        refine wp_skip ?_
        refine hK10 _ _ ?_
        refine wp_seq_k fun K11 hK11 => ?_
        refine wp_block ?_
        refine wp_seq_k fun K12 hK12 => ?_
        refine wp_region_lit ?_
        obtain ⟨ys2, hl2, hm2, hy2⟩ := idx_agg (P := Try.prog) (t := 48) (e := 23) (len := 4) (m := 2) (kd := .i64) [b0, b1, dbb, dbr, max 1 (dbb - at_), dbr, dbb, b1] ((k55 : Int)) (by kernel_rfl) (by kernel_rfl) (by omega) rfl
        obtain ⟨y2_0, y2_1, rfl⟩ := len2 hl2
        refine wl (eM 57 (v := .agg #[.int .i64 y2_0, .int .i64 y2_1]) hF hM (by kernel_rfl) (yld_index (X := .agg #[.int .i64 b0, .int .i64 b1, .int .i64 dbb, .int .i64 dbr, .int .i64 (max 1 (dbb - at_)), .int .i64 dbr, .int .i64 dbb, .int .i64 b1]) (I := .int .i64 ((k55 : Int))) hF rfl (by kernel_rfl) (by kernel_rfl) (by kernel_rfl) (fun w => hy2 w)) fun a w hF hM => ?_)
        refine wl (eN 16 12 (t := 23) (fun b => .pointer (some ⟨b, 0, none⟩)) #[.int .i64 0, .int .i64 0] hF hM (by kernel_rfl) (fun _ => by kernel_rfl) fun bb8 a w hF hM => ?_)
        refine wl (sStore (i := 12) (off := 0) (cs' := #[.int .i64 y2_0, .int .i64 y2_1]) hF hM (by kernel_rfl) rfl rfl (by kernel_rfl) (by kernel_rfl) rfl (by kernel_rfl) fun w hM => ?_)
        refine wpList_nil ?_
        refine hK12 _ _ ?_
        refine wp_seq_k fun K13 hK13 => ?_
        refine wp_region_lit ?_
        refine sB 4 [(58, .slice A lsl.length c), (59, .slice AA4 ltr.length cc4), (60, .slice AA5 lcf.length cc5), (61, .slice AA4 ltr.length cc4)] hF (by kernel_rfl) fun a hF => ?_
        refine wl (eL 62 6 0 (v := .agg #[.int .i64 ax, .int .i64 ay]) hF hM (by kernel_rfl) rfl rfl (by kernel_rfl) (by kernel_rfl) fun a w hF hM => ?_)
        refine sB 1 [(63, .int .u8 at_)] hF (by kernel_rfl) fun a hF => ?_
        obtain ⟨lbt, e_lbt⟩ : ∃ x : List (Int × Int), x = bentL ltr ax ay at_ := ⟨_, rfl⟩
        have le_lbt : lbt.length = ltr.length := by rw [e_lbt]; exact bentL_length _ _ _ _
        refine wl (sOwn 13 (f := 19) (args := #[.slice AA4 ltr.length cc4, .agg #[.int .i64 ax, .int .i64 ay], .int .u8 at_]) (mk := fun v => v) (e := 30) (size := 2) (m := lbt.length) (xs := (flat2 lbt)) hF hM (by kernel_rfl) rfl (by decide) (by kernel_rfl) (fun _ => by kernel_rfl) (by rw [e_lbt]; exact bent_w AA4 ltr _ ax ay at_ w (ro_of_own (hM.ok 8 _ rfl)) (fun h => by have := own_nil hM (k := 8) rfl h; first | omega | (simp; omega)) (by first | omega | (simp; omega)) (by omega)) fun AA9 cc9 a w hF hM => ?_)
        refine sB 2 [(65, .agg #[.slice A lsl.length c, .slice AA4 ltr.length cc4, .slice AA5 lcf.length cc5, .slice AA9 lbt.length cc9]), (66, .int .i64 0)] hF (by kernel_rfl) fun a hF => ?_
        refine wpList_nil ?_
        refine hK13 _ _ ?_
        refine wp_block ?_
        refine wp_loop_rounds 5 ?_
        refine rounds_k fun K14 hK14 => ?_
        refine wp_seq_k fun K15 hK15 => ?_
        refine wp_region_lit ?_
        refine wl (eP 67 (v0 := .bool (decide (0 < 4))) (v := .bool true) hF (by kernel_rfl) (fun _ => by kernel_rfl) (bT (by omega)) fun a hF => ?_)
        refine wpList_nil ?_
        refine hK15 _ _ ?_
        refine wp_seq_k fun K16 hK16 => ?_
        refine cT hF (by kernel_rfl) (by kernel_rfl) ?_
        refine wp_skip ?_
        refine hK16 _ _ ?_
        refine wp_seq_k fun K17 hK17 => ?_
        refine wp_block ?_
        refine wp_seq_k fun K18 hK18 => ?_
        refine wp_region_lit ?_
        refine sB 2 [(68, .slice A lsl.length c), (18, .slice A lsl.length c)] hF (by kernel_rfl) fun a hF => ?_
        refine wpList_nil ?_
        refine hK18 _ _ ?_
        refine wp_seq_k fun K19 hK19 => ?_
        refine wp_region_lit ?_
        refine wl (eL 70 12 0 (v := .agg #[.int .i64 y2_0, .int .i64 y2_1]) hF hM (by kernel_rfl) rfl rfl (by kernel_rfl) (by kernel_rfl) fun a w hF hM => ?_)
        refine sB 1 [(71, .slice A lsl.length c)] hF (by kernel_rfl) fun a hF => ?_
        refine wl (eM 72 (v := .tuple #[.bool (cfB y2_0 y2_1 lsl), .int .i64 (ckE y2_0 y2_1 lsl)]) hF hM (by kernel_rfl) (yld_call (f := 23) (args := #[.agg #[.int .i64 y2_0, .int .i64 y2_1], .slice A lsl.length c]) hF (by kernel_rfl) (fun _ => by kernel_rfl) (fun w hM => conforms_w y2_0 y2_1 A lsl _ w (hM.ok 7 _ rfl))) fun a w hF hM => ?_)
        refine sB 5 [(69, .tuple #[.bool (cfB y2_0 y2_1 lsl), .int .i64 (ckE y2_0 y2_1 lsl)]), (73, .bool (cfB y2_0 y2_1 lsl)), (74, .int .i64 (ckE y2_0 y2_1 lsl)), (19, .bool (cfB y2_0 y2_1 lsl)), (20, .int .i64 (ckE y2_0 y2_1 lsl))] hF (by kernel_rfl) fun a hF => ?_
        refine wpList_nil ?_
        refine hK19 _ _ ?_
        refine wp_seq_k fun K20 hK20 => ?_
        refine wp_region_lit ?_
        refine wl (eL 76 12 0 (v := .agg #[.int .i64 y2_0, .int .i64 y2_1]) hF hM (by kernel_rfl) rfl rfl (by kernel_rfl) (by kernel_rfl) fun a w hF hM => ?_)
        refine sB 1 [(77, .slice A lsl.length c)] hF (by kernel_rfl) fun a hF => ?_
        refine wl (eM 78 (v := .tuple #[.bool (cfB y2_0 y2_1 lsl), .int .i64 (ckE y2_0 y2_1 lsl)]) hF hM (by kernel_rfl) (yld_call (f := 24) (args := #[.agg #[.int .i64 y2_0, .int .i64 y2_1], .slice A lsl.length c]) hF (by kernel_rfl) (fun _ => by kernel_rfl) (fun w hM => rConforms_w y2_0 y2_1 A lsl _ w (hM.ok 7 _ rfl))) fun a w hF hM => ?_)
        refine sB 5 [(75, .tuple #[.bool (cfB y2_0 y2_1 lsl), .int .i64 (ckE y2_0 y2_1 lsl)]), (79, .bool (cfB y2_0 y2_1 lsl)), (80, .int .i64 (ckE y2_0 y2_1 lsl)), (21, .bool (cfB y2_0 y2_1 lsl)), (22, .int .i64 (ckE y2_0 y2_1 lsl))] hF (by kernel_rfl) fun a hF => ?_
        refine wpList_nil ?_
        refine hK20 _ _ ?_
        refine wp_seq_k fun K21 hK21 => ?_
        refine wp_region_lit ?_
        refine wl (eL 82 12 0 (v := .agg #[.int .i64 y2_0, .int .i64 y2_1]) hF hM (by kernel_rfl) rfl rfl (by kernel_rfl) (by kernel_rfl) fun a w hF hM => ?_)
        refine sB 1 [(83, .slice A lsl.length c)] hF (by kernel_rfl) fun a hF => ?_
        refine wl (eM 84 (v := .tuple #[.int .i64 (fiV y2_0 y2_1 lsl), .int .i64 (ckE y2_0 y2_1 lsl)]) hF hM (by kernel_rfl) (yld_call (f := 25) (args := #[.agg #[.int .i64 y2_0, .int .i64 y2_1], .slice A lsl.length c]) hF (by kernel_rfl) (fun _ => by kernel_rfl) (fun w hM => bFirst_w y2_0 y2_1 A lsl _ w (hM.ok 7 _ rfl))) fun a w hF hM => ?_)
        refine sB 5 [(81, .tuple #[.int .i64 (fiV y2_0 y2_1 lsl), .int .i64 (ckE y2_0 y2_1 lsl)]), (85, .int .i64 (fiV y2_0 y2_1 lsl)), (86, .int .i64 (ckE y2_0 y2_1 lsl)), (23, .int .i64 (fiV y2_0 y2_1 lsl)), (24, .int .i64 (ckE y2_0 y2_1 lsl))] hF (by kernel_rfl) fun a hF => ?_
        refine wpList_nil ?_
        refine hK21 _ _ ?_
        refine wp_seq_k fun K22 hK22 => ?_
        refine wp_region_lit ?_
        refine wl (eL 88 12 0 (v := .agg #[.int .i64 y2_0, .int .i64 y2_1]) hF hM (by kernel_rfl) rfl rfl (by kernel_rfl) (by kernel_rfl) fun a w hF hM => ?_)
        refine sB 1 [(89, .slice A lsl.length c)] hF (by kernel_rfl) fun a hF => ?_
        refine wl (eM 90 (v := .tuple #[.int .i64 (fiV y2_0 y2_1 lsl), .int .i64 (ckE y2_0 y2_1 lsl)]) hF hM (by kernel_rfl) (yld_call (f := 26) (args := #[.agg #[.int .i64 y2_0, .int .i64 y2_1], .slice A lsl.length c]) hF (by kernel_rfl) (fun _ => by kernel_rfl) (fun w hM => rFirst_w y2_0 y2_1 A lsl _ w (hM.ok 7 _ rfl) (by omega))) fun a w hF hM => ?_)
        refine sB 5 [(87, .tuple #[.int .i64 (fiV y2_0 y2_1 lsl), .int .i64 (ckE y2_0 y2_1 lsl)]), (91, .int .i64 (fiV y2_0 y2_1 lsl)), (92, .int .i64 (ckE y2_0 y2_1 lsl)), (25, .int .i64 (fiV y2_0 y2_1 lsl)), (26, .int .i64 (ckE y2_0 y2_1 lsl))] hF (by kernel_rfl) fun a hF => ?_
        refine wpList_nil ?_
        refine hK22 _ _ ?_
        refine wp_seq_k fun K23 hK23 => ?_
        refine wp_region_lit ?_
        refine sB 2 [(93, .bool (cfB y2_0 y2_1 lsl)), (94, .bool (cfB y2_0 y2_1 lsl))] hF (by kernel_rfl) fun a hF => ?_
        refine wl (eP 95 (v0 := .bool ((cfB y2_0 y2_1 lsl) != (cfB y2_0 y2_1 lsl))) (v := .bool false) hF (by kernel_rfl) (fun _ => by kernel_rfl) (congrArg Value.bool (by simp)) fun a hF => ?_)
        refine sB 3 [(96, .bool false), (97, .int .i64 (ckE y2_0 y2_1 lsl)), (98, .int .i64 (ckE y2_0 y2_1 lsl))] hF (by kernel_rfl) fun a hF => ?_
        refine wl (eP 99 (v0 := .bool (!decide (ckE y2_0 y2_1 lsl = ckE y2_0 y2_1 lsl))) (v := .bool false) hF (by kernel_rfl) (fun _ => by kernel_rfl) (nT (by omega)) fun a hF => ?_)
        refine sB 4 [(100, .bool false), (101, .bool false), (102, .int .i64 (fiV y2_0 y2_1 lsl)), (103, .int .i64 (fiV y2_0 y2_1 lsl))] hF (by kernel_rfl) fun a hF => ?_
        refine wl (eP 104 (v0 := .bool (!decide (fiV y2_0 y2_1 lsl = fiV y2_0 y2_1 lsl))) (v := .bool false) hF (by kernel_rfl) (fun _ => by kernel_rfl) (nT (by omega)) fun a hF => ?_)
        refine sB 4 [(105, .bool false), (106, .bool false), (107, .int .i64 (ckE y2_0 y2_1 lsl)), (108, .int .i64 (ckE y2_0 y2_1 lsl))] hF (by kernel_rfl) fun a hF => ?_
        refine wl (eP 109 (v0 := .bool (!decide (ckE y2_0 y2_1 lsl = ckE y2_0 y2_1 lsl))) (v := .bool false) hF (by kernel_rfl) (fun _ => by kernel_rfl) (nT (by omega)) fun a hF => ?_)
        refine sB 1 [(110, .bool false)] hF (by kernel_rfl) fun a hF => ?_
        refine wpList_nil ?_
        refine hK23 _ _ ?_
        refine cF hF (by kernel_rfl) (by kernel_rfl) ?_
        refine wp_skip ?_
        refine hK17 _ _ ?_
        refine wp_region_lit ?_
        refine wl (eP 111 (v0 := .int .i64 (IntKind.i64.wrap (0 + 1))) (v := .int .i64 1) hF (by kernel_rfl) (fun _ => by kernel_rfl) (vi (by decide)) fun a hF => ?_)
        refine sB 1 [(66, .int .i64 1)] hF (by kernel_rfl) fun a hF => ?_
        refine wpList_nil ?_
        refine hK14 _ _ ?_
        refine rounds_k fun K24 hK24 => ?_
        refine wp_seq_k fun K25 hK25 => ?_
        refine wp_region_lit ?_
        refine wl (eP 67 (v0 := .bool (decide (1 < 4))) (v := .bool true) hF (by kernel_rfl) (fun _ => by kernel_rfl) (bT (by omega)) fun a hF => ?_)
        refine wpList_nil ?_
        refine hK25 _ _ ?_
        refine wp_seq_k fun K26 hK26 => ?_
        refine cT hF (by kernel_rfl) (by kernel_rfl) ?_
        refine wp_skip ?_
        refine hK26 _ _ ?_
        refine wp_seq_k fun K27 hK27 => ?_
        refine wp_block ?_
        refine wp_seq_k fun K28 hK28 => ?_
        refine wp_region_lit ?_
        refine sB 2 [(68, .slice AA4 ltr.length cc4), (18, .slice AA4 ltr.length cc4)] hF (by kernel_rfl) fun a hF => ?_
        refine wpList_nil ?_
        refine hK28 _ _ ?_
        refine wp_seq_k fun K29 hK29 => ?_
        refine wp_region_lit ?_
        refine wl (eL 70 12 0 (v := .agg #[.int .i64 y2_0, .int .i64 y2_1]) hF hM (by kernel_rfl) rfl rfl (by kernel_rfl) (by kernel_rfl) fun a w hF hM => ?_)
        refine sB 1 [(71, .slice AA4 ltr.length cc4)] hF (by kernel_rfl) fun a hF => ?_
        refine wl (eM 72 (v := .tuple #[.bool (cfB y2_0 y2_1 ltr), .int .i64 (ckE y2_0 y2_1 ltr)]) hF hM (by kernel_rfl) (yld_call (f := 23) (args := #[.agg #[.int .i64 y2_0, .int .i64 y2_1], .slice AA4 ltr.length cc4]) hF (by kernel_rfl) (fun _ => by kernel_rfl) (fun w hM => conforms_w y2_0 y2_1 AA4 ltr _ w (ro_of_own (hM.ok 8 _ rfl)))) fun a w hF hM => ?_)
        refine sB 5 [(69, .tuple #[.bool (cfB y2_0 y2_1 ltr), .int .i64 (ckE y2_0 y2_1 ltr)]), (73, .bool (cfB y2_0 y2_1 ltr)), (74, .int .i64 (ckE y2_0 y2_1 ltr)), (19, .bool (cfB y2_0 y2_1 ltr)), (20, .int .i64 (ckE y2_0 y2_1 ltr))] hF (by kernel_rfl) fun a hF => ?_
        refine wpList_nil ?_
        refine hK29 _ _ ?_
        refine wp_seq_k fun K30 hK30 => ?_
        refine wp_region_lit ?_
        refine wl (eL 76 12 0 (v := .agg #[.int .i64 y2_0, .int .i64 y2_1]) hF hM (by kernel_rfl) rfl rfl (by kernel_rfl) (by kernel_rfl) fun a w hF hM => ?_)
        refine sB 1 [(77, .slice AA4 ltr.length cc4)] hF (by kernel_rfl) fun a hF => ?_
        refine wl (eM 78 (v := .tuple #[.bool (cfB y2_0 y2_1 ltr), .int .i64 (ckE y2_0 y2_1 ltr)]) hF hM (by kernel_rfl) (yld_call (f := 24) (args := #[.agg #[.int .i64 y2_0, .int .i64 y2_1], .slice AA4 ltr.length cc4]) hF (by kernel_rfl) (fun _ => by kernel_rfl) (fun w hM => rConforms_w y2_0 y2_1 AA4 ltr _ w (ro_of_own (hM.ok 8 _ rfl)))) fun a w hF hM => ?_)
        refine sB 5 [(75, .tuple #[.bool (cfB y2_0 y2_1 ltr), .int .i64 (ckE y2_0 y2_1 ltr)]), (79, .bool (cfB y2_0 y2_1 ltr)), (80, .int .i64 (ckE y2_0 y2_1 ltr)), (21, .bool (cfB y2_0 y2_1 ltr)), (22, .int .i64 (ckE y2_0 y2_1 ltr))] hF (by kernel_rfl) fun a hF => ?_
        refine wpList_nil ?_
        refine hK30 _ _ ?_
        refine wp_seq_k fun K31 hK31 => ?_
        refine wp_region_lit ?_
        refine wl (eL 82 12 0 (v := .agg #[.int .i64 y2_0, .int .i64 y2_1]) hF hM (by kernel_rfl) rfl rfl (by kernel_rfl) (by kernel_rfl) fun a w hF hM => ?_)
        refine sB 1 [(83, .slice AA4 ltr.length cc4)] hF (by kernel_rfl) fun a hF => ?_
        refine wl (eM 84 (v := .tuple #[.int .i64 (fiV y2_0 y2_1 ltr), .int .i64 (ckE y2_0 y2_1 ltr)]) hF hM (by kernel_rfl) (yld_call (f := 25) (args := #[.agg #[.int .i64 y2_0, .int .i64 y2_1], .slice AA4 ltr.length cc4]) hF (by kernel_rfl) (fun _ => by kernel_rfl) (fun w hM => bFirst_w y2_0 y2_1 AA4 ltr _ w (ro_of_own (hM.ok 8 _ rfl)))) fun a w hF hM => ?_)
        refine sB 5 [(81, .tuple #[.int .i64 (fiV y2_0 y2_1 ltr), .int .i64 (ckE y2_0 y2_1 ltr)]), (85, .int .i64 (fiV y2_0 y2_1 ltr)), (86, .int .i64 (ckE y2_0 y2_1 ltr)), (23, .int .i64 (fiV y2_0 y2_1 ltr)), (24, .int .i64 (ckE y2_0 y2_1 ltr))] hF (by kernel_rfl) fun a hF => ?_
        refine wpList_nil ?_
        refine hK31 _ _ ?_
        refine wp_seq_k fun K32 hK32 => ?_
        refine wp_region_lit ?_
        refine wl (eL 88 12 0 (v := .agg #[.int .i64 y2_0, .int .i64 y2_1]) hF hM (by kernel_rfl) rfl rfl (by kernel_rfl) (by kernel_rfl) fun a w hF hM => ?_)
        refine sB 1 [(89, .slice AA4 ltr.length cc4)] hF (by kernel_rfl) fun a hF => ?_
        refine wl (eM 90 (v := .tuple #[.int .i64 (fiV y2_0 y2_1 ltr), .int .i64 (ckE y2_0 y2_1 ltr)]) hF hM (by kernel_rfl) (yld_call (f := 26) (args := #[.agg #[.int .i64 y2_0, .int .i64 y2_1], .slice AA4 ltr.length cc4]) hF (by kernel_rfl) (fun _ => by kernel_rfl) (fun w hM => rFirst_w y2_0 y2_1 AA4 ltr _ w (ro_of_own (hM.ok 8 _ rfl)) (by have := own_cap hM (k := 8) rfl; first | omega | (simp; omega)))) fun a w hF hM => ?_)
        refine sB 5 [(87, .tuple #[.int .i64 (fiV y2_0 y2_1 ltr), .int .i64 (ckE y2_0 y2_1 ltr)]), (91, .int .i64 (fiV y2_0 y2_1 ltr)), (92, .int .i64 (ckE y2_0 y2_1 ltr)), (25, .int .i64 (fiV y2_0 y2_1 ltr)), (26, .int .i64 (ckE y2_0 y2_1 ltr))] hF (by kernel_rfl) fun a hF => ?_
        refine wpList_nil ?_
        refine hK32 _ _ ?_
        refine wp_seq_k fun K33 hK33 => ?_
        refine wp_region_lit ?_
        refine sB 2 [(93, .bool (cfB y2_0 y2_1 ltr)), (94, .bool (cfB y2_0 y2_1 ltr))] hF (by kernel_rfl) fun a hF => ?_
        refine wl (eP 95 (v0 := .bool ((cfB y2_0 y2_1 ltr) != (cfB y2_0 y2_1 ltr))) (v := .bool false) hF (by kernel_rfl) (fun _ => by kernel_rfl) (congrArg Value.bool (by simp)) fun a hF => ?_)
        refine sB 3 [(96, .bool false), (97, .int .i64 (ckE y2_0 y2_1 ltr)), (98, .int .i64 (ckE y2_0 y2_1 ltr))] hF (by kernel_rfl) fun a hF => ?_
        refine wl (eP 99 (v0 := .bool (!decide (ckE y2_0 y2_1 ltr = ckE y2_0 y2_1 ltr))) (v := .bool false) hF (by kernel_rfl) (fun _ => by kernel_rfl) (nT (by omega)) fun a hF => ?_)
        refine sB 4 [(100, .bool false), (101, .bool false), (102, .int .i64 (fiV y2_0 y2_1 ltr)), (103, .int .i64 (fiV y2_0 y2_1 ltr))] hF (by kernel_rfl) fun a hF => ?_
        refine wl (eP 104 (v0 := .bool (!decide (fiV y2_0 y2_1 ltr = fiV y2_0 y2_1 ltr))) (v := .bool false) hF (by kernel_rfl) (fun _ => by kernel_rfl) (nT (by omega)) fun a hF => ?_)
        refine sB 4 [(105, .bool false), (106, .bool false), (107, .int .i64 (ckE y2_0 y2_1 ltr)), (108, .int .i64 (ckE y2_0 y2_1 ltr))] hF (by kernel_rfl) fun a hF => ?_
        refine wl (eP 109 (v0 := .bool (!decide (ckE y2_0 y2_1 ltr = ckE y2_0 y2_1 ltr))) (v := .bool false) hF (by kernel_rfl) (fun _ => by kernel_rfl) (nT (by omega)) fun a hF => ?_)
        refine sB 1 [(110, .bool false)] hF (by kernel_rfl) fun a hF => ?_
        refine wpList_nil ?_
        refine hK33 _ _ ?_
        refine cF hF (by kernel_rfl) (by kernel_rfl) ?_
        refine wp_skip ?_
        refine hK27 _ _ ?_
        refine wp_region_lit ?_
        refine wl (eP 111 (v0 := .int .i64 (IntKind.i64.wrap (1 + 1))) (v := .int .i64 2) hF (by kernel_rfl) (fun _ => by kernel_rfl) (vi (by decide)) fun a hF => ?_)
        refine sB 1 [(66, .int .i64 2)] hF (by kernel_rfl) fun a hF => ?_
        refine wpList_nil ?_
        refine hK24 _ _ ?_
        refine rounds_k fun K34 hK34 => ?_
        refine wp_seq_k fun K35 hK35 => ?_
        refine wp_region_lit ?_
        refine wl (eP 67 (v0 := .bool (decide (2 < 4))) (v := .bool true) hF (by kernel_rfl) (fun _ => by kernel_rfl) (bT (by omega)) fun a hF => ?_)
        refine wpList_nil ?_
        refine hK35 _ _ ?_
        refine wp_seq_k fun K36 hK36 => ?_
        refine cT hF (by kernel_rfl) (by kernel_rfl) ?_
        refine wp_skip ?_
        refine hK36 _ _ ?_
        refine wp_seq_k fun K37 hK37 => ?_
        refine wp_block ?_
        refine wp_seq_k fun K38 hK38 => ?_
        refine wp_region_lit ?_
        refine sB 2 [(68, .slice AA5 lcf.length cc5), (18, .slice AA5 lcf.length cc5)] hF (by kernel_rfl) fun a hF => ?_
        refine wpList_nil ?_
        refine hK38 _ _ ?_
        refine wp_seq_k fun K39 hK39 => ?_
        refine wp_region_lit ?_
        refine wl (eL 70 12 0 (v := .agg #[.int .i64 y2_0, .int .i64 y2_1]) hF hM (by kernel_rfl) rfl rfl (by kernel_rfl) (by kernel_rfl) fun a w hF hM => ?_)
        refine sB 1 [(71, .slice AA5 lcf.length cc5)] hF (by kernel_rfl) fun a hF => ?_
        refine wl (eM 72 (v := .tuple #[.bool (cfB y2_0 y2_1 lcf), .int .i64 (ckE y2_0 y2_1 lcf)]) hF hM (by kernel_rfl) (yld_call (f := 23) (args := #[.agg #[.int .i64 y2_0, .int .i64 y2_1], .slice AA5 lcf.length cc5]) hF (by kernel_rfl) (fun _ => by kernel_rfl) (fun w hM => conforms_w y2_0 y2_1 AA5 lcf _ w (ro_of_own (hM.ok 9 _ rfl)))) fun a w hF hM => ?_)
        refine sB 5 [(69, .tuple #[.bool (cfB y2_0 y2_1 lcf), .int .i64 (ckE y2_0 y2_1 lcf)]), (73, .bool (cfB y2_0 y2_1 lcf)), (74, .int .i64 (ckE y2_0 y2_1 lcf)), (19, .bool (cfB y2_0 y2_1 lcf)), (20, .int .i64 (ckE y2_0 y2_1 lcf))] hF (by kernel_rfl) fun a hF => ?_
        refine wpList_nil ?_
        refine hK39 _ _ ?_
        refine wp_seq_k fun K40 hK40 => ?_
        refine wp_region_lit ?_
        refine wl (eL 76 12 0 (v := .agg #[.int .i64 y2_0, .int .i64 y2_1]) hF hM (by kernel_rfl) rfl rfl (by kernel_rfl) (by kernel_rfl) fun a w hF hM => ?_)
        refine sB 1 [(77, .slice AA5 lcf.length cc5)] hF (by kernel_rfl) fun a hF => ?_
        refine wl (eM 78 (v := .tuple #[.bool (cfB y2_0 y2_1 lcf), .int .i64 (ckE y2_0 y2_1 lcf)]) hF hM (by kernel_rfl) (yld_call (f := 24) (args := #[.agg #[.int .i64 y2_0, .int .i64 y2_1], .slice AA5 lcf.length cc5]) hF (by kernel_rfl) (fun _ => by kernel_rfl) (fun w hM => rConforms_w y2_0 y2_1 AA5 lcf _ w (ro_of_own (hM.ok 9 _ rfl)))) fun a w hF hM => ?_)
        refine sB 5 [(75, .tuple #[.bool (cfB y2_0 y2_1 lcf), .int .i64 (ckE y2_0 y2_1 lcf)]), (79, .bool (cfB y2_0 y2_1 lcf)), (80, .int .i64 (ckE y2_0 y2_1 lcf)), (21, .bool (cfB y2_0 y2_1 lcf)), (22, .int .i64 (ckE y2_0 y2_1 lcf))] hF (by kernel_rfl) fun a hF => ?_
        refine wpList_nil ?_
        refine hK40 _ _ ?_
        refine wp_seq_k fun K41 hK41 => ?_
        refine wp_region_lit ?_
        refine wl (eL 82 12 0 (v := .agg #[.int .i64 y2_0, .int .i64 y2_1]) hF hM (by kernel_rfl) rfl rfl (by kernel_rfl) (by kernel_rfl) fun a w hF hM => ?_)
        refine sB 1 [(83, .slice AA5 lcf.length cc5)] hF (by kernel_rfl) fun a hF => ?_
        refine wl (eM 84 (v := .tuple #[.int .i64 (fiV y2_0 y2_1 lcf), .int .i64 (ckE y2_0 y2_1 lcf)]) hF hM (by kernel_rfl) (yld_call (f := 25) (args := #[.agg #[.int .i64 y2_0, .int .i64 y2_1], .slice AA5 lcf.length cc5]) hF (by kernel_rfl) (fun _ => by kernel_rfl) (fun w hM => bFirst_w y2_0 y2_1 AA5 lcf _ w (ro_of_own (hM.ok 9 _ rfl)))) fun a w hF hM => ?_)
        refine sB 5 [(81, .tuple #[.int .i64 (fiV y2_0 y2_1 lcf), .int .i64 (ckE y2_0 y2_1 lcf)]), (85, .int .i64 (fiV y2_0 y2_1 lcf)), (86, .int .i64 (ckE y2_0 y2_1 lcf)), (23, .int .i64 (fiV y2_0 y2_1 lcf)), (24, .int .i64 (ckE y2_0 y2_1 lcf))] hF (by kernel_rfl) fun a hF => ?_
        refine wpList_nil ?_
        refine hK41 _ _ ?_
        refine wp_seq_k fun K42 hK42 => ?_
        refine wp_region_lit ?_
        refine wl (eL 88 12 0 (v := .agg #[.int .i64 y2_0, .int .i64 y2_1]) hF hM (by kernel_rfl) rfl rfl (by kernel_rfl) (by kernel_rfl) fun a w hF hM => ?_)
        refine sB 1 [(89, .slice AA5 lcf.length cc5)] hF (by kernel_rfl) fun a hF => ?_
        refine wl (eM 90 (v := .tuple #[.int .i64 (fiV y2_0 y2_1 lcf), .int .i64 (ckE y2_0 y2_1 lcf)]) hF hM (by kernel_rfl) (yld_call (f := 26) (args := #[.agg #[.int .i64 y2_0, .int .i64 y2_1], .slice AA5 lcf.length cc5]) hF (by kernel_rfl) (fun _ => by kernel_rfl) (fun w hM => rFirst_w y2_0 y2_1 AA5 lcf _ w (ro_of_own (hM.ok 9 _ rfl)) (by have := own_cap hM (k := 9) rfl; first | omega | (simp; omega)))) fun a w hF hM => ?_)
        refine sB 5 [(87, .tuple #[.int .i64 (fiV y2_0 y2_1 lcf), .int .i64 (ckE y2_0 y2_1 lcf)]), (91, .int .i64 (fiV y2_0 y2_1 lcf)), (92, .int .i64 (ckE y2_0 y2_1 lcf)), (25, .int .i64 (fiV y2_0 y2_1 lcf)), (26, .int .i64 (ckE y2_0 y2_1 lcf))] hF (by kernel_rfl) fun a hF => ?_
        refine wpList_nil ?_
        refine hK42 _ _ ?_
        refine wp_seq_k fun K43 hK43 => ?_
        refine wp_region_lit ?_
        refine sB 2 [(93, .bool (cfB y2_0 y2_1 lcf)), (94, .bool (cfB y2_0 y2_1 lcf))] hF (by kernel_rfl) fun a hF => ?_
        refine wl (eP 95 (v0 := .bool ((cfB y2_0 y2_1 lcf) != (cfB y2_0 y2_1 lcf))) (v := .bool false) hF (by kernel_rfl) (fun _ => by kernel_rfl) (congrArg Value.bool (by simp)) fun a hF => ?_)
        refine sB 3 [(96, .bool false), (97, .int .i64 (ckE y2_0 y2_1 lcf)), (98, .int .i64 (ckE y2_0 y2_1 lcf))] hF (by kernel_rfl) fun a hF => ?_
        refine wl (eP 99 (v0 := .bool (!decide (ckE y2_0 y2_1 lcf = ckE y2_0 y2_1 lcf))) (v := .bool false) hF (by kernel_rfl) (fun _ => by kernel_rfl) (nT (by omega)) fun a hF => ?_)
        refine sB 4 [(100, .bool false), (101, .bool false), (102, .int .i64 (fiV y2_0 y2_1 lcf)), (103, .int .i64 (fiV y2_0 y2_1 lcf))] hF (by kernel_rfl) fun a hF => ?_
        refine wl (eP 104 (v0 := .bool (!decide (fiV y2_0 y2_1 lcf = fiV y2_0 y2_1 lcf))) (v := .bool false) hF (by kernel_rfl) (fun _ => by kernel_rfl) (nT (by omega)) fun a hF => ?_)
        refine sB 4 [(105, .bool false), (106, .bool false), (107, .int .i64 (ckE y2_0 y2_1 lcf)), (108, .int .i64 (ckE y2_0 y2_1 lcf))] hF (by kernel_rfl) fun a hF => ?_
        refine wl (eP 109 (v0 := .bool (!decide (ckE y2_0 y2_1 lcf = ckE y2_0 y2_1 lcf))) (v := .bool false) hF (by kernel_rfl) (fun _ => by kernel_rfl) (nT (by omega)) fun a hF => ?_)
        refine sB 1 [(110, .bool false)] hF (by kernel_rfl) fun a hF => ?_
        refine wpList_nil ?_
        refine hK43 _ _ ?_
        refine cF hF (by kernel_rfl) (by kernel_rfl) ?_
        refine wp_skip ?_
        refine hK37 _ _ ?_
        refine wp_region_lit ?_
        refine wl (eP 111 (v0 := .int .i64 (IntKind.i64.wrap (2 + 1))) (v := .int .i64 3) hF (by kernel_rfl) (fun _ => by kernel_rfl) (vi (by decide)) fun a hF => ?_)
        refine sB 1 [(66, .int .i64 3)] hF (by kernel_rfl) fun a hF => ?_
        refine wpList_nil ?_
        refine hK34 _ _ ?_
        refine rounds_k fun K44 hK44 => ?_
        refine wp_seq_k fun K45 hK45 => ?_
        refine wp_region_lit ?_
        refine wl (eP 67 (v0 := .bool (decide (3 < 4))) (v := .bool true) hF (by kernel_rfl) (fun _ => by kernel_rfl) (bT (by omega)) fun a hF => ?_)
        refine wpList_nil ?_
        refine hK45 _ _ ?_
        refine wp_seq_k fun K46 hK46 => ?_
        refine cT hF (by kernel_rfl) (by kernel_rfl) ?_
        refine wp_skip ?_
        refine hK46 _ _ ?_
        refine wp_seq_k fun K47 hK47 => ?_
        refine wp_block ?_
        refine wp_seq_k fun K48 hK48 => ?_
        refine wp_region_lit ?_
        refine sB 2 [(68, .slice AA9 lbt.length cc9), (18, .slice AA9 lbt.length cc9)] hF (by kernel_rfl) fun a hF => ?_
        refine wpList_nil ?_
        refine hK48 _ _ ?_
        refine wp_seq_k fun K49 hK49 => ?_
        refine wp_region_lit ?_
        refine wl (eL 70 12 0 (v := .agg #[.int .i64 y2_0, .int .i64 y2_1]) hF hM (by kernel_rfl) rfl rfl (by kernel_rfl) (by kernel_rfl) fun a w hF hM => ?_)
        refine sB 1 [(71, .slice AA9 lbt.length cc9)] hF (by kernel_rfl) fun a hF => ?_
        refine wl (eM 72 (v := .tuple #[.bool (cfB y2_0 y2_1 lbt), .int .i64 (ckE y2_0 y2_1 lbt)]) hF hM (by kernel_rfl) (yld_call (f := 23) (args := #[.agg #[.int .i64 y2_0, .int .i64 y2_1], .slice AA9 lbt.length cc9]) hF (by kernel_rfl) (fun _ => by kernel_rfl) (fun w hM => conforms_w y2_0 y2_1 AA9 lbt _ w (ro_of_own (hM.ok 13 _ rfl)))) fun a w hF hM => ?_)
        refine sB 5 [(69, .tuple #[.bool (cfB y2_0 y2_1 lbt), .int .i64 (ckE y2_0 y2_1 lbt)]), (73, .bool (cfB y2_0 y2_1 lbt)), (74, .int .i64 (ckE y2_0 y2_1 lbt)), (19, .bool (cfB y2_0 y2_1 lbt)), (20, .int .i64 (ckE y2_0 y2_1 lbt))] hF (by kernel_rfl) fun a hF => ?_
        refine wpList_nil ?_
        refine hK49 _ _ ?_
        refine wp_seq_k fun K50 hK50 => ?_
        refine wp_region_lit ?_
        refine wl (eL 76 12 0 (v := .agg #[.int .i64 y2_0, .int .i64 y2_1]) hF hM (by kernel_rfl) rfl rfl (by kernel_rfl) (by kernel_rfl) fun a w hF hM => ?_)
        refine sB 1 [(77, .slice AA9 lbt.length cc9)] hF (by kernel_rfl) fun a hF => ?_
        refine wl (eM 78 (v := .tuple #[.bool (cfB y2_0 y2_1 lbt), .int .i64 (ckE y2_0 y2_1 lbt)]) hF hM (by kernel_rfl) (yld_call (f := 24) (args := #[.agg #[.int .i64 y2_0, .int .i64 y2_1], .slice AA9 lbt.length cc9]) hF (by kernel_rfl) (fun _ => by kernel_rfl) (fun w hM => rConforms_w y2_0 y2_1 AA9 lbt _ w (ro_of_own (hM.ok 13 _ rfl)))) fun a w hF hM => ?_)
        refine sB 5 [(75, .tuple #[.bool (cfB y2_0 y2_1 lbt), .int .i64 (ckE y2_0 y2_1 lbt)]), (79, .bool (cfB y2_0 y2_1 lbt)), (80, .int .i64 (ckE y2_0 y2_1 lbt)), (21, .bool (cfB y2_0 y2_1 lbt)), (22, .int .i64 (ckE y2_0 y2_1 lbt))] hF (by kernel_rfl) fun a hF => ?_
        refine wpList_nil ?_
        refine hK50 _ _ ?_
        refine wp_seq_k fun K51 hK51 => ?_
        refine wp_region_lit ?_
        refine wl (eL 82 12 0 (v := .agg #[.int .i64 y2_0, .int .i64 y2_1]) hF hM (by kernel_rfl) rfl rfl (by kernel_rfl) (by kernel_rfl) fun a w hF hM => ?_)
        refine sB 1 [(83, .slice AA9 lbt.length cc9)] hF (by kernel_rfl) fun a hF => ?_
        refine wl (eM 84 (v := .tuple #[.int .i64 (fiV y2_0 y2_1 lbt), .int .i64 (ckE y2_0 y2_1 lbt)]) hF hM (by kernel_rfl) (yld_call (f := 25) (args := #[.agg #[.int .i64 y2_0, .int .i64 y2_1], .slice AA9 lbt.length cc9]) hF (by kernel_rfl) (fun _ => by kernel_rfl) (fun w hM => bFirst_w y2_0 y2_1 AA9 lbt _ w (ro_of_own (hM.ok 13 _ rfl)))) fun a w hF hM => ?_)
        refine sB 5 [(81, .tuple #[.int .i64 (fiV y2_0 y2_1 lbt), .int .i64 (ckE y2_0 y2_1 lbt)]), (85, .int .i64 (fiV y2_0 y2_1 lbt)), (86, .int .i64 (ckE y2_0 y2_1 lbt)), (23, .int .i64 (fiV y2_0 y2_1 lbt)), (24, .int .i64 (ckE y2_0 y2_1 lbt))] hF (by kernel_rfl) fun a hF => ?_
        refine wpList_nil ?_
        refine hK51 _ _ ?_
        refine wp_seq_k fun K52 hK52 => ?_
        refine wp_region_lit ?_
        refine wl (eL 88 12 0 (v := .agg #[.int .i64 y2_0, .int .i64 y2_1]) hF hM (by kernel_rfl) rfl rfl (by kernel_rfl) (by kernel_rfl) fun a w hF hM => ?_)
        refine sB 1 [(89, .slice AA9 lbt.length cc9)] hF (by kernel_rfl) fun a hF => ?_
        refine wl (eM 90 (v := .tuple #[.int .i64 (fiV y2_0 y2_1 lbt), .int .i64 (ckE y2_0 y2_1 lbt)]) hF hM (by kernel_rfl) (yld_call (f := 26) (args := #[.agg #[.int .i64 y2_0, .int .i64 y2_1], .slice AA9 lbt.length cc9]) hF (by kernel_rfl) (fun _ => by kernel_rfl) (fun w hM => rFirst_w y2_0 y2_1 AA9 lbt _ w (ro_of_own (hM.ok 13 _ rfl)) (by have := own_cap hM (k := 13) rfl; first | omega | (simp; omega)))) fun a w hF hM => ?_)
        refine sB 5 [(87, .tuple #[.int .i64 (fiV y2_0 y2_1 lbt), .int .i64 (ckE y2_0 y2_1 lbt)]), (91, .int .i64 (fiV y2_0 y2_1 lbt)), (92, .int .i64 (ckE y2_0 y2_1 lbt)), (25, .int .i64 (fiV y2_0 y2_1 lbt)), (26, .int .i64 (ckE y2_0 y2_1 lbt))] hF (by kernel_rfl) fun a hF => ?_
        refine wpList_nil ?_
        refine hK52 _ _ ?_
        refine wp_seq_k fun K53 hK53 => ?_
        refine wp_region_lit ?_
        refine sB 2 [(93, .bool (cfB y2_0 y2_1 lbt)), (94, .bool (cfB y2_0 y2_1 lbt))] hF (by kernel_rfl) fun a hF => ?_
        refine wl (eP 95 (v0 := .bool ((cfB y2_0 y2_1 lbt) != (cfB y2_0 y2_1 lbt))) (v := .bool false) hF (by kernel_rfl) (fun _ => by kernel_rfl) (congrArg Value.bool (by simp)) fun a hF => ?_)
        refine sB 3 [(96, .bool false), (97, .int .i64 (ckE y2_0 y2_1 lbt)), (98, .int .i64 (ckE y2_0 y2_1 lbt))] hF (by kernel_rfl) fun a hF => ?_
        refine wl (eP 99 (v0 := .bool (!decide (ckE y2_0 y2_1 lbt = ckE y2_0 y2_1 lbt))) (v := .bool false) hF (by kernel_rfl) (fun _ => by kernel_rfl) (nT (by omega)) fun a hF => ?_)
        refine sB 4 [(100, .bool false), (101, .bool false), (102, .int .i64 (fiV y2_0 y2_1 lbt)), (103, .int .i64 (fiV y2_0 y2_1 lbt))] hF (by kernel_rfl) fun a hF => ?_
        refine wl (eP 104 (v0 := .bool (!decide (fiV y2_0 y2_1 lbt = fiV y2_0 y2_1 lbt))) (v := .bool false) hF (by kernel_rfl) (fun _ => by kernel_rfl) (nT (by omega)) fun a hF => ?_)
        refine sB 4 [(105, .bool false), (106, .bool false), (107, .int .i64 (ckE y2_0 y2_1 lbt)), (108, .int .i64 (ckE y2_0 y2_1 lbt))] hF (by kernel_rfl) fun a hF => ?_
        refine wl (eP 109 (v0 := .bool (!decide (ckE y2_0 y2_1 lbt = ckE y2_0 y2_1 lbt))) (v := .bool false) hF (by kernel_rfl) (fun _ => by kernel_rfl) (nT (by omega)) fun a hF => ?_)
        refine sB 1 [(110, .bool false)] hF (by kernel_rfl) fun a hF => ?_
        refine wpList_nil ?_
        refine hK53 _ _ ?_
        refine cF hF (by kernel_rfl) (by kernel_rfl) ?_
        refine wp_skip ?_
        refine hK47 _ _ ?_
        refine wp_region_lit ?_
        refine wl (eP 111 (v0 := .int .i64 (IntKind.i64.wrap (3 + 1))) (v := .int .i64 4) hF (by kernel_rfl) (fun _ => by kernel_rfl) (vi (by decide)) fun a hF => ?_)
        refine sB 1 [(66, .int .i64 4)] hF (by kernel_rfl) fun a hF => ?_
        refine wpList_nil ?_
        refine hK44 _ _ ?_
        refine rounds_k fun K54 hK54 => ?_
        refine wp_seq_k fun K55 hK55 => ?_
        refine wp_region_lit ?_
        refine wl (eP 67 (v0 := .bool (decide (4 < 4))) (v := .bool false) hF (by kernel_rfl) (fun _ => by kernel_rfl) (bF (by omega)) fun a hF => ?_)
        refine wpList_nil ?_
        refine hK55 _ _ ?_
        refine wp_seq_k fun K56 hK56 => ?_
        refine cF hF (by kernel_rfl) (by kernel_rfl) ?_
        refine wp_exit ?_
        refine hK11 _ _ ?_
        refine wp_region_lit ?_
        refine wl (eP 112 (v0 := .int .i64 (IntKind.i64.wrap ((k55 : Int) + 1))) (v := .int .i64 ((k55 : Int) + 1)) hF (by kernel_rfl) (fun _ => by kernel_rfl) (wi (by omega)) fun a hF => ?_)
        refine sB 1 [(55, .int .i64 ((k55 : Int) + 1))] hF (by kernel_rfl) fun a hF => ?_
        refine wpList_nil ?_
        refine hK8 _ _ ⟨(k55 + 1), ⟨((((((((Fr.nil hF).c hF (i := 54) rfl rfl).c hF (i := 13) rfl rfl).c hF (i := 12) rfl rfl).c hF (i := 8) rfl rfl).c hF (i := 4) rfl rfl).c hF (i := 1) rfl rfl).c hF (i := 55) rfl (vi (show ((k55 : Int) + 1 : Int) = ((k55 + 1) : Int) from by omega))), (hM.sub (((((((Sub.nil.c (k := 9) rfl rfl).c (k := 8) rfl rfl).c (k := 7) rfl rfl).c (k := 6) rfl rfl).c (k := 3) rfl rfl).c (k := 2) rfl rfl).c (k := 1) rfl rfl)), (show ((k55 + 1) : Int) ≤ 4 from by omega)⟩, (show 4 - (k55 + 1) < 4 - k55 from by omega)⟩
      · skip
        replace hF := hF.c hF (i := 56) (v := .bool false) rfl (bF hz2)
        refine cF hF (by kernel_rfl) (by kernel_rfl) ?_
        refine wp_exit ?_
        refine hK6 _ _ ?_
        refine wp_seq_k fun K57 hK57 => ?_
        refine wp_region_lit ?_
        refine wl (eM 113 (v := .bool true) hF hM (by kernel_rfl) (yld_call (f := 21) (args := #[]) hF (by kernel_rfl) (fun _ => by kernel_rfl) (fun w hM => works_w w)) fun a w hF hM => ?_)
        refine sB 1 [(10, .bool true)] hF (by kernel_rfl) fun a hF => ?_
        refine wpList_nil ?_
        refine hK57 _ _ ?_
        refine wp_ret ?_
        refine hR0 _ _ ?_
        refine ret_of hF hM (.tmp rfl (.nil)) ?_
        exact ⟨rfl, hM.bel⟩

end Go.Proofs.Ytecofcjlokfkhaa
