/-
  The walk of BucketMerges.
-/
import Derived.Test.YtecofcjlokfkhaaBkD
import Derived.Test.YtecofcjlokfkhaaCfTrW
import Derived.Test.YtecofcjlokfkhaaPartPlain
import Derived.Test.YtecofcjlokfkhaaOpen2
namespace Go.Proofs.Ytecofcjlokfkhaa
open Go.RowKit
set_option linter.unusedVariables false
set_option linter.unusedSimpArgs false

theorem sm_two {a p b q : Int} (h1 : bkE a p = 0) (h2 : bkE b q = 0) : (bkE (a + b) (p + q) = 0 → smE [(a, p), (b, q)] = 0 ∧ smB [(a, p), (b, q)] = a + b ∧ smR [(a, p), (b, q)] = p + q) ∧ (¬ bkE (a + b) (p + q) = 0 → smE [(a, p), (b, q)] = 6 ∧ smB [(a, p), (b, q)] = 0 ∧ smR [(a, p), (b, q)] = 0) := by
  have eb : sB_ [(a, p), (b, q)] = a + b := by simp only [sB_]; omega
  have er : sR_ [(a, p), (b, q)] = p + q := by simp only [sR_]; omega
  have al : [(a, p), (b, q)].all (fun x => decide (bkE x.1 x.2 = 0)) = true := by simp [h1, h2]
  constructor
  · intro h
    have e : smE [(a, p), (b, q)] = 0 := by unfold smE; rw [if_neg (by simp), if_neg (by simp), if_pos al, eb, er, if_pos h]
    have := sm_yes e
    rw [eb, er] at this
    exact this
  · intro h
    exact sm_no (by unfold smE; rw [if_neg (by simp), if_neg (by simp), if_pos al, eb, er, if_neg h]) (by decide)
theorem tup3_to {x y z x' y' z' : Int} (h : z = z' ∧ x = x' ∧ y = y') {F : FuncId} {vs : Array Value} {w : World} (q : Calls Try.prog F vs w (Ret w (.tuple #[.agg #[.int .i64 x, .int .i64 y], .int .i64 z]))) : Calls Try.prog F vs w (Ret w (.tuple #[.agg #[.int .i64 x', .int .i64 y'], .int .i64 z'])) := by
  rw [h.1, h.2.1, h.2.2] at q
  exact q
theorem agg2_to {x y x' y' : Int} (h : x = x') (h' : y = y') {F : FuncId} {vs : Array Value} {w : World} (q : Calls Try.prog F vs w (Ret w (.agg #[.int .i64 x, .int .i64 y]))) : Calls Try.prog F vs w (Ret w (.agg #[.int .i64 x', .int .i64 y'])) := by
  rw [h, h'] at q
  exact q
set_option maxRecDepth 100000 in
set_option maxHeartbeats 8000000 in
theorem bucketMerges_walk (bua raa : Int) (Gaa : Option Addr) (gapsa : List Int) (cga : Nat) (Saa : Option Addr) (sizesa : List Int) (csa : Nat) (bub rab : Int) (Gab : Option Addr) (gapsb : List Int) (cgb : Nat) (Sab : Option Addr) (sizesb : List Int) (csb : Nat) (Ka : Option Addr) (kl : List Bool) (ck : Nat) (w0 : World) (hGaa : Ro w0 Gaa (gapsa.map (Value.int .u16))) (hSaa : Ro w0 Saa (sizesa.map (Value.int .u16))) (hga : All16 gapsa) (hsa : All16 sizesa) (hmga : gapsa.length ≤ 9223372036854775807) (hmsa : sizesa.length ≤ 9223372036854775807) (hGab : Ro w0 Gab (gapsb.map (Value.int .u16))) (hSab : Ro w0 Sab (sizesb.map (Value.int .u16))) (hgb : All16 gapsb) (hsb : All16 sizesb) (hmgb : gapsb.length ≤ 9223372036854775807) (hmsb : sizesb.length ≤ 9223372036854775807) (h : 0 ≤ bua ∧ bua < 4294967296 ∧ 0 ≤ raa ∧ raa < 4294967296 ∧ 0 ≤ bub ∧ bub < 4294967296 ∧ 0 ≤ rab ∧ rab < 4294967296) (hK : Ro w0 Ka (kl.map Value.bool)) (hkm : kl.length ≤ 9223372036854775807) :
    Calls Try.prog 8 #[.agg #[.int .u32 bua, .int .u32 raa, .slice Gaa gapsa.length cga, .slice Saa sizesa.length csa, .int .u32 bub, .int .u32 rab, .slice Gab gapsb.length cgb, .slice Sab sizesb.length csb], .slice Ka kl.length ck] w0 (Ret w0 (.bool true)) := by
  obtain ⟨xab, hxab⟩ : ∃ z : Int, 1 + bua % 1048576 = z := ⟨_, rfl⟩
  obtain ⟨xar, hxar⟩ : ∃ z : Int, 1 + raa % 2097152 = z := ⟨_, rfl⟩
  obtain ⟨ab, hab1⟩ : ∃ z : Int, 1 + xab / 2 = z := ⟨_, rfl⟩
  obtain ⟨ar, har1⟩ : ∃ z : Int, 1 + xar / 4 = z := ⟨_, rfl⟩
  have hab2 : bkE ab ar = 0 := by unfold bkE; rw [if_pos]; omega
  have ea1 : 1 + (ab - 1) % 1048576 = ab := by omega
  have ea2 : 1 + (ar - 1) % 2097152 = ar := by omega
  obtain ⟨la, hla⟩ : ∃ z : List (Int × Int), cfDr (ab - 1) (ar - 1) gapsa sizesa = z := ⟨_, rfl⟩
  have cfa : cfB ab ar la = true := by rw [← hla]; unfold cfDr; rw [ea1, ea2]; exact cfTr_cf hab2 (dr_trE hga hsa)
  have hlea : la.length ≤ 30 := by rw [← hla]; unfold cfDr; rw [ea1, ea2]; exact Nat.le_trans (cfTr_le hab2 (dr_trE hga hsa)) (dr_le _ _)
  obtain ⟨xbb, hxbb⟩ : ∃ z : Int, 1 + bub % 1048576 = z := ⟨_, rfl⟩
  obtain ⟨xbr, hxbr⟩ : ∃ z : Int, 1 + rab % 2097152 = z := ⟨_, rfl⟩
  obtain ⟨bb_, hbb_1⟩ : ∃ z : Int, 1 + xbb / 2 = z := ⟨_, rfl⟩
  obtain ⟨br, hbr1⟩ : ∃ z : Int, 1 + xbr / 4 = z := ⟨_, rfl⟩
  have hbb2 : bkE bb_ br = 0 := by unfold bkE; rw [if_pos]; omega
  have eb1 : 1 + (bb_ - 1) % 1048576 = bb_ := by omega
  have eb2 : 1 + (br - 1) % 2097152 = br := by omega
  obtain ⟨lb, hlb⟩ : ∃ z : List (Int × Int), cfDr (bb_ - 1) (br - 1) gapsb sizesb = z := ⟨_, rfl⟩
  have cfb : cfB bb_ br lb = true := by rw [← hlb]; unfold cfDr; rw [eb1, eb2]; exact cfTr_cf hbb2 (dr_trE hgb hsb)
  have hleb : lb.length ≤ 30 := by rw [← hlb]; unfold cfDr; rw [eb1, eb2]; exact Nat.le_trans (cfTr_le hbb2 (dr_trE hgb hsb)) (dr_le _ _)
  have hyS : ¬ 1048576 < ab + bb_ → bkE (ab + bb_) (ar + br) = 0 := fun q => by unfold bkE; rw [if_pos]; omega
  have hnS : 1048576 < ab + bb_ → ¬ bkE (ab + bb_) (ar + br) = 0 := fun q => by unfold bkE; rw [if_neg (by omega)]; decide
  refine enterK 180 Try.func8 rfl rfl rfl ?_
  intro a hF Q0 hR0 hN0
  have hM := Mem.start w0
  replace hM := hM.addOld 1 hGaa (Nat.le_refl _)
  replace hM := hM.addOld 2 hSaa (Nat.le_refl _)
  replace hM := hM.addOld 3 hGab (Nat.le_refl _)
  replace hM := hM.addOld 4 hSab (Nat.le_refl _)
  replace hM := hM.addOld 5 hK (Nat.le_refl _)
  refine wp_seq_k fun K1 hK1 => ?_
  refine wp_region_lit ?_
  refine wl (eN 2 6 (t := 63) (fun b => .pointer (some ⟨b, 0, none⟩)) #[.int .u32 bua, .int .u32 raa, .slice Gaa gapsa.length cga, .slice Saa sizesa.length csa, .int .u32 bub, .int .u32 rab, .slice Gab gapsb.length cgb, .slice Sab sizesb.length csb] hF hM (by kernel_rfl) (fun _ => by kernel_rfl) fun bb1 a w hF hM => ?_)
  refine sB 1 [(4, .bool false)] hF (by kernel_rfl) fun a hF => ?_
  refine wpList_nil ?_
  refine hK1 _ _ ?_
  refine wp_seq_k fun K2 hK2 => ?_
  refine wp_seq_k fun K3 hK3 => ?_
  refine wp_region_lit ?_
  refine wl (eM 16 (v := .bool true) hF hM (by kernel_rfl) (yld_call (f := 21) (args := #[]) hF (by kernel_rfl) (fun _ => by kernel_rfl) (fun w hM => works_w w)) fun a w hF hM => ?_)
  refine sB 1 [(17, .bool false)] hF (by kernel_rfl) fun a hF => ?_
  refine wpList_nil ?_
  refine hK3 _ _ ?_
  refine cF hF (by kernel_rfl) (by kernel_rfl) ?_
  refine wp_skip ?_
  refine hK2 _ _ ?_
  refine wp_seq_k fun K4 hK4 => ?_
  refine rF (by kernel_rfl) (by kernel_rfl) (fun S a w => ∃ bb2 : Nat, ∃ bb3 : Nat, Fr 180 [(1, some (.slice Ka kl.length ck)), (2, some (.pointer (some ⟨bb1, 0, none⟩))), (4, some (.bool false)), (5, (cond (S.getD 6 false) (some (.pointer (some ⟨bb2, 0, none⟩))) none)), (6, (cond (S.getD 7 false) (some (.pointer (some ⟨bb3, 0, none⟩))) none)), (18, (cond (S.getD 0 false) (some (.pointer (some ⟨bb1, 0, none⟩))) none)), (19, (cond (S.getD 1 false) (some (.agg #[.int .u32 bua, .int .u32 raa, .slice Gaa gapsa.length cga, .slice Saa sizesa.length csa])) none)), (20, (cond (S.getD 2 false) (some (.agg #[.int .i64 xab, .int .i64 xar])) none)), (21, (cond (S.getD 3 false) (some (.pointer (some ⟨bb1, 4, none⟩))) none)), (22, (cond (S.getD 4 false) (some (.agg #[.int .u32 bub, .int .u32 rab, .slice Gab gapsb.length cgb, .slice Sab sizesb.length csb])) none)), (23, (cond (S.getD 5 false) (some (.agg #[.int .i64 xbb, .int .i64 xbr])) none))] a ∧ Mem w0.heap.size w0 [(1, some (.ro Gaa (gapsa.map (Value.int .u16)))), (2, some (.ro Saa (sizesa.map (Value.int .u16)))), (3, some (.ro Gab (gapsb.map (Value.int .u16)))), (4, some (.ro Sab (sizesb.map (Value.int .u16)))), (5, some (.ro Ka (kl.map Value.bool))), (6, some (.row bb1 63 #[.int .u32 bua, .int .u32 raa, .slice Gaa gapsa.length cga, .slice Saa sizesa.length csa, .int .u32 bub, .int .u32 rab, .slice Gab gapsb.length cgb, .slice Sab sizesb.length csb])), (7, (cond (S.getD 8 false) (some (.row bb2 23 #[.int .i64 xab, .int .i64 xar])) (cond (S.getD 6 false) (some (.row bb2 23 #[.int .i64 0, .int .i64 0])) none))), (8, (cond (S.getD 9 false) (some (.row bb3 23 #[.int .i64 xbb, .int .i64 xbr])) (cond (S.getD 7 false) (some (.row bb3 23 #[.int .i64 0, .int .i64 0])) none)))] w) ?_ ?_ ?_
  · exact ⟨0, 0, ((((((((((((Fr.nil hF).co hF (i := 23) (by kernel_rfl)).co hF (i := 22) (by kernel_rfl)).co hF (i := 21) (by kernel_rfl)).co hF (i := 20) (by kernel_rfl)).co hF (i := 19) (by kernel_rfl)).co hF (i := 18) (by kernel_rfl)).co hF (i := 6) (by kernel_rfl)).co hF (i := 5) (by kernel_rfl)).co hF (i := 4) (by kernel_rfl)).co hF (i := 2) (by kernel_rfl)).co hF (i := 1) (by kernel_rfl)), hM.drew.sub ((((((((Sub.nil.co (k := 8) (by kernel_rfl)).co (k := 7) (by kernel_rfl)).co (k := 6) (by kernel_rfl)).co (k := 5) (by kernel_rfl)).co (k := 4) (by kernel_rfl)).co (k := 3) (by kernel_rfl)).co (k := 2) (by kernel_rfl)).co (k := 1) (by kernel_rfl))⟩
  · refine stC ?_ (stC ?_ (stC ?_ (stC ?_ (stC ?_ (stC ?_ (stC ?_ (stC ?_ (stC ?_ (stC ?_ (trivial))))))))))
    · intro s0 s1 s2 s3 s4 s5 s6 s7 s8 s9 hc hi hp a w hS
      obtain rfl : s0 = false := hi
      obtain ⟨bb2, bb3, hF, hM⟩ := hS
      refine eP 18 (v0 := .pointer (some ⟨bb1, 0, none⟩)) (v := .pointer (some ⟨bb1, 0, none⟩)) hF (by kernel_rfl) (fun _ => by kernel_rfl) rfl fun a hF => ?_
      exact ⟨bb2, bb3, ((hF.repl 5 (by kernel_rfl)).cast (by kernel_rfl)), (hM.cast (by kernel_rfl))⟩
    · intro s0 s1 s2 s3 s4 s5 s6 s7 s8 s9 hc hi hp a w hS
      obtain rfl : s1 = false := hi
      obtain rfl : s0 = true := hp 0 (by kernel_rfl)
      obtain ⟨bb2, bb3, hF, hM⟩ := hS
      refine eL 19 6 0 (v := .agg #[.int .u32 bua, .int .u32 raa, .slice Gaa gapsa.length cga, .slice Saa sizesa.length csa]) hF hM (by kernel_rfl) rfl rfl (by kernel_rfl) (by kernel_rfl) fun a w hF hM => ?_
      exact ⟨bb2, bb3, ((hF.repl 6 (by kernel_rfl)).cast (by kernel_rfl)), (hM.cast (by kernel_rfl))⟩
    · intro s0 s1 s2 s3 s4 s5 s6 s7 s8 s9 hc hi hp a w hS
      obtain rfl : s2 = false := hi
      obtain rfl : s1 = true := hp 1 (by kernel_rfl)
      obtain ⟨bb2, bb3, hF, hM⟩ := hS
      refine eM 20 (v := .agg #[.int .i64 xab, .int .i64 xar]) hF hM (by kernel_rfl) (yld_call (f := 10) (args := #[.agg #[.int .u32 bua, .int .u32 raa, .slice Gaa gapsa.length cga, .slice Saa sizesa.length csa]]) hF (by kernel_rfl) (fun _ => by kernel_rfl) (fun w hM => agg2_to hxab hxar (draftBucket_w bua raa (.slice Gaa gapsa.length cga) (.slice Saa sizesa.length csa) w (by omega)))) fun a w hF hM => ?_
      exact ⟨bb2, bb3, ((hF.repl 7 (by kernel_rfl)).cast (by kernel_rfl)), (hM.cast (by kernel_rfl))⟩
    · intro s0 s1 s2 s3 s4 s5 s6 s7 s8 s9 hc hi hp a w hS
      obtain rfl : s3 = false := hi
      obtain ⟨bb2, bb3, hF, hM⟩ := hS
      refine eP 21 (v0 := .pointer (some ⟨bb1, 4, none⟩)) (v := .pointer (some ⟨bb1, 4, none⟩)) hF (by kernel_rfl) (fun _ => by kernel_rfl) rfl fun a hF => ?_
      exact ⟨bb2, bb3, ((hF.repl 8 (by kernel_rfl)).cast (by kernel_rfl)), (hM.cast (by kernel_rfl))⟩
    · intro s0 s1 s2 s3 s4 s5 s6 s7 s8 s9 hc hi hp a w hS
      obtain rfl : s4 = false := hi
      obtain rfl : s3 = true := hp 3 (by kernel_rfl)
      obtain ⟨bb2, bb3, hF, hM⟩ := hS
      refine eL 22 6 4 (v := .agg #[.int .u32 bub, .int .u32 rab, .slice Gab gapsb.length cgb, .slice Sab sizesb.length csb]) hF hM (by kernel_rfl) rfl rfl (by kernel_rfl) (by kernel_rfl) fun a w hF hM => ?_
      exact ⟨bb2, bb3, ((hF.repl 9 (by kernel_rfl)).cast (by kernel_rfl)), (hM.cast (by kernel_rfl))⟩
    · intro s0 s1 s2 s3 s4 s5 s6 s7 s8 s9 hc hi hp a w hS
      obtain rfl : s5 = false := hi
      obtain rfl : s4 = true := hp 4 (by kernel_rfl)
      obtain ⟨bb2, bb3, hF, hM⟩ := hS
      refine eM 23 (v := .agg #[.int .i64 xbb, .int .i64 xbr]) hF hM (by kernel_rfl) (yld_call (f := 10) (args := #[.agg #[.int .u32 bub, .int .u32 rab, .slice Gab gapsb.length cgb, .slice Sab sizesb.length csb]]) hF (by kernel_rfl) (fun _ => by kernel_rfl) (fun w hM => agg2_to hxbb hxbr (draftBucket_w bub rab (.slice Gab gapsb.length cgb) (.slice Sab sizesb.length csb) w (by omega)))) fun a w hF hM => ?_
      exact ⟨bb2, bb3, ((hF.repl 10 (by kernel_rfl)).cast (by kernel_rfl)), (hM.cast (by kernel_rfl))⟩
    · intro s0 s1 s2 s3 s4 s5 s6 s7 s8 s9 hc hi hp a w hS
      obtain rfl : s6 = false := hi
      obtain rfl : s8 = false := hc.f 8 6 (by kernel_rfl) rfl
      obtain ⟨bb2, bb3, hF, hM⟩ := hS
      refine eN 5 7 (t := 23) (fun b => .pointer (some ⟨b, 0, none⟩)) #[.int .i64 0, .int .i64 0] hF hM (by kernel_rfl) (fun _ => by kernel_rfl) fun bb2 a w hF hM => ?_
      exact ⟨bb2, bb3, ((hF.repl 3 (by kernel_rfl)).cast (by kernel_rfl)), ((hM.repl 6 (by kernel_rfl)).cast (by kernel_rfl))⟩
    · intro s0 s1 s2 s3 s4 s5 s6 s7 s8 s9 hc hi hp a w hS
      obtain rfl : s7 = false := hi
      obtain rfl : s9 = false := hc.f 9 7 (by kernel_rfl) rfl
      obtain ⟨bb2, bb3, hF, hM⟩ := hS
      refine eN 6 8 (t := 23) (fun b => .pointer (some ⟨b, 0, none⟩)) #[.int .i64 0, .int .i64 0] hF hM (by kernel_rfl) (fun _ => by kernel_rfl) fun bb3 a w hF hM => ?_
      exact ⟨bb2, bb3, ((hF.repl 4 (by kernel_rfl)).cast (by kernel_rfl)), ((hM.repl 7 (by kernel_rfl)).cast (by kernel_rfl))⟩
    · intro s0 s1 s2 s3 s4 s5 s6 s7 s8 s9 hc hi hp a w hS
      obtain rfl : s8 = false := hi
      obtain rfl : s6 = true := hp 6 (by kernel_rfl)
      obtain rfl : s2 = true := hp 2 (by kernel_rfl)
      obtain ⟨bb2, bb3, hF, hM⟩ := hS
      refine sStore (i := 7) (off := 0) (cs' := #[.int .i64 xab, .int .i64 xar]) hF hM (by kernel_rfl) rfl rfl (by kernel_rfl) (by kernel_rfl) rfl (by kernel_rfl) fun w hM => ?_
      exact ⟨bb2, bb3, (hF.cast (by kernel_rfl)), ((hM.repl 6 (by kernel_rfl)).cast (by kernel_rfl))⟩
    · intro s0 s1 s2 s3 s4 s5 s6 s7 s8 s9 hc hi hp a w hS
      obtain rfl : s9 = false := hi
      obtain rfl : s7 = true := hp 7 (by kernel_rfl)
      obtain rfl : s5 = true := hp 5 (by kernel_rfl)
      obtain ⟨bb2, bb3, hF, hM⟩ := hS
      refine sStore (i := 8) (off := 0) (cs' := #[.int .i64 xbb, .int .i64 xbr]) hF hM (by kernel_rfl) rfl rfl (by kernel_rfl) (by kernel_rfl) rfl (by kernel_rfl) fun w hM => ?_
      exact ⟨bb2, bb3, (hF.cast (by kernel_rfl)), ((hM.repl 7 (by kernel_rfl)).cast (by kernel_rfl))⟩
  · intro a w hS
    obtain ⟨bb2, bb3, hF, hM⟩ := hS
    replace hF : Fr 180 [(1, some (.slice Ka kl.length ck)), (2, some (.pointer (some ⟨bb1, 0, none⟩))), (4, some (.bool false)), (5, some (.pointer (some ⟨bb2, 0, none⟩))), (6, some (.pointer (some ⟨bb3, 0, none⟩))), (18, some (.pointer (some ⟨bb1, 0, none⟩))), (19, some (.agg #[.int .u32 bua, .int .u32 raa, .slice Gaa gapsa.length cga, .slice Saa sizesa.length csa])), (20, some (.agg #[.int .i64 xab, .int .i64 xar])), (21, some (.pointer (some ⟨bb1, 4, none⟩))), (22, some (.agg #[.int .u32 bub, .int .u32 rab, .slice Gab gapsb.length cgb, .slice Sab sizesb.length csb])), (23, some (.agg #[.int .i64 xbb, .int .i64 xbr]))] a := hF.cast (by kernel_rfl)
    replace hM : Mem w0.heap.size w0 [(1, some (.ro Gaa (gapsa.map (Value.int .u16)))), (2, some (.ro Saa (sizesa.map (Value.int .u16)))), (3, some (.ro Gab (gapsb.map (Value.int .u16)))), (4, some (.ro Sab (sizesb.map (Value.int .u16)))), (5, some (.ro Ka (kl.map Value.bool))), (6, some (.row bb1 63 #[.int .u32 bua, .int .u32 raa, .slice Gaa gapsa.length cga, .slice Saa sizesa.length csa, .int .u32 bub, .int .u32 rab, .slice Gab gapsb.length cgb, .slice Sab sizesb.length csb])), (7, some (.row bb2 23 #[.int .i64 xab, .int .i64 xar])), (8, some (.row bb3 23 #[.int .i64 xbb, .int .i64 xbr]))] w := hM.cast (by kernel_rfl)
    refine hK4 _ _ ?_
    refine wp_seq_k fun K5 hK5 => ?_
    refine rF (by kernel_rfl) (by kernel_rfl) (fun S a w => Fr 180 [(1, some (.slice Ka kl.length ck)), (2, some (.pointer (some ⟨bb1, 0, none⟩))), (4, some (.bool false)), (5, some (.pointer (some ⟨bb2, 0, none⟩))), (6, some (.pointer (some ⟨bb3, 0, none⟩))), (24, (cond (S.getD 0 false) (some (.pointer (some ⟨bb2, 0, none⟩))) none)), (25, (cond (S.getD 1 false) (some (.int .i64 xab)) none)), (26, (cond (S.getD 2 false) (some (.int .i64 (xab / 2))) none)), (27, (cond (S.getD 3 false) (some (.int .i64 ab)) none)), (28, (cond (S.getD 4 false) (some (.pointer (some ⟨bb3, 0, none⟩))) none)), (29, (cond (S.getD 5 false) (some (.int .i64 xbb)) none)), (30, (cond (S.getD 6 false) (some (.int .i64 (xbb / 2))) none)), (31, (cond (S.getD 7 false) (some (.int .i64 bb_)) none)), (32, (cond (S.getD 8 false) (some (.pointer (some ⟨bb2, 1, none⟩))) none)), (33, (cond (S.getD 9 false) (some (.int .i64 xar)) none)), (34, (cond (S.getD 10 false) (some (.int .i64 (xar / 4))) none)), (35, (cond (S.getD 11 false) (some (.int .i64 ar)) none)), (36, (cond (S.getD 12 false) (some (.pointer (some ⟨bb3, 1, none⟩))) none)), (37, (cond (S.getD 13 false) (some (.int .i64 xbr)) none)), (38, (cond (S.getD 14 false) (some (.int .i64 (xbr / 4))) none)), (39, (cond (S.getD 15 false) (some (.int .i64 br)) none)), (40, (cond (S.getD 16 false) (some (.pointer (some ⟨bb2, 0, none⟩))) none)), (41, (cond (S.getD 18 false) (some (.pointer (some ⟨bb3, 0, none⟩))) none)), (42, (cond (S.getD 20 false) (some (.pointer (some ⟨bb2, 1, none⟩))) none)), (43, (cond (S.getD 22 false) (some (.pointer (some ⟨bb3, 1, none⟩))) none))] a ∧ Mem w0.heap.size w0 [(1, some (.ro Gaa (gapsa.map (Value.int .u16)))), (2, some (.ro Saa (sizesa.map (Value.int .u16)))), (3, some (.ro Gab (gapsb.map (Value.int .u16)))), (4, some (.ro Sab (sizesb.map (Value.int .u16)))), (5, some (.ro Ka (kl.map Value.bool))), (6, some (.row bb1 63 #[.int .u32 bua, .int .u32 raa, .slice Gaa gapsa.length cga, .slice Saa sizesa.length csa, .int .u32 bub, .int .u32 rab, .slice Gab gapsb.length cgb, .slice Sab sizesb.length csb])), (7, (cond (S.getD 21 false) (some (.row bb2 23 #[.int .i64 ab, .int .i64 ar])) (cond (S.getD 17 false) (some (.row bb2 23 #[.int .i64 ab, .int .i64 xar])) (some (.row bb2 23 #[.int .i64 xab, .int .i64 xar]))))), (8, (cond (S.getD 23 false) (some (.row bb3 23 #[.int .i64 bb_, .int .i64 br])) (cond (S.getD 19 false) (some (.row bb3 23 #[.int .i64 bb_, .int .i64 xbr])) (some (.row bb3 23 #[.int .i64 xbb, .int .i64 xbr])))))] w) ?_ ?_ ?_
    · exact ⟨((((((((((((((((((((((((((Fr.nil hF).co hF (i := 43) (by kernel_rfl)).co hF (i := 42) (by kernel_rfl)).co hF (i := 41) (by kernel_rfl)).co hF (i := 40) (by kernel_rfl)).co hF (i := 39) (by kernel_rfl)).co hF (i := 38) (by kernel_rfl)).co hF (i := 37) (by kernel_rfl)).co hF (i := 36) (by kernel_rfl)).co hF (i := 35) (by kernel_rfl)).co hF (i := 34) (by kernel_rfl)).co hF (i := 33) (by kernel_rfl)).co hF (i := 32) (by kernel_rfl)).co hF (i := 31) (by kernel_rfl)).co hF (i := 30) (by kernel_rfl)).co hF (i := 29) (by kernel_rfl)).co hF (i := 28) (by kernel_rfl)).co hF (i := 27) (by kernel_rfl)).co hF (i := 26) (by kernel_rfl)).co hF (i := 25) (by kernel_rfl)).co hF (i := 24) (by kernel_rfl)).co hF (i := 6) (by kernel_rfl)).co hF (i := 5) (by kernel_rfl)).co hF (i := 4) (by kernel_rfl)).co hF (i := 2) (by kernel_rfl)).co hF (i := 1) (by kernel_rfl)), hM.drew.sub ((((((((Sub.nil.co (k := 8) (by kernel_rfl)).co (k := 7) (by kernel_rfl)).co (k := 6) (by kernel_rfl)).co (k := 5) (by kernel_rfl)).co (k := 4) (by kernel_rfl)).co (k := 3) (by kernel_rfl)).co (k := 2) (by kernel_rfl)).co (k := 1) (by kernel_rfl))⟩
    · refine stC ?_ (stC ?_ (stC ?_ (stC ?_ (stC ?_ (stC ?_ (stC ?_ (stC ?_ (stC ?_ (stC ?_ (stC ?_ (stC ?_ (stC ?_ (stC ?_ (stC ?_ (stC ?_ (stC ?_ (stC ?_ (stC ?_ (stC ?_ (stC ?_ (stC ?_ (stC ?_ (stC ?_ (trivial))))))))))))))))))))))))
      · intro s0 s1 s2 s3 s4 s5 s6 s7 s8 s9 s10 s11 s12 s13 s14 s15 s16 s17 s18 s19 s20 s21 s22 s23 hc hi hp a w hS
        obtain rfl : s0 = false := hi
        obtain rfl : s17 = false := hc.f 17 0 (by kernel_rfl) rfl
        obtain rfl : s21 = false := hc.f 21 0 (by kernel_rfl) rfl
        obtain ⟨hF, hM⟩ := hS
        refine eP 24 (v0 := .pointer (some ⟨bb2, 0, none⟩)) (v := .pointer (some ⟨bb2, 0, none⟩)) hF (by kernel_rfl) (fun _ => by kernel_rfl) rfl fun a hF => ?_
        exact ⟨((hF.repl 5 (by kernel_rfl)).cast (by kernel_rfl)), (hM.cast (by kernel_rfl))⟩
      · intro s0 s1 s2 s3 s4 s5 s6 s7 s8 s9 s10 s11 s12 s13 s14 s15 s16 s17 s18 s19 s20 s21 s22 s23 hc hi hp a w hS
        obtain rfl : s1 = false := hi
        obtain rfl : s0 = true := hp 0 (by kernel_rfl)
        obtain rfl : s17 = false := hc.f 17 1 (by kernel_rfl) rfl
        obtain rfl : s21 = false := hc.f 21 1 (by kernel_rfl) rfl
        obtain ⟨hF, hM⟩ := hS
        refine eL 25 7 0 (v := .int .i64 xab) hF hM (by kernel_rfl) rfl rfl (by kernel_rfl) (by kernel_rfl) fun a w hF hM => ?_
        exact ⟨((hF.repl 6 (by kernel_rfl)).cast (by kernel_rfl)), (hM.cast (by kernel_rfl))⟩
      · intro s0 s1 s2 s3 s4 s5 s6 s7 s8 s9 s10 s11 s12 s13 s14 s15 s16 s17 s18 s19 s20 s21 s22 s23 hc hi hp a w hS
        obtain rfl : s2 = false := hi
        obtain rfl : s1 = true := hp 1 (by kernel_rfl)
        obtain ⟨hF, hM⟩ := hS
        refine eM 26 (v := .int .i64 (xab / 2)) hF hM (by kernel_rfl) (yld_quo xab 2 hF rfl (by kernel_rfl) (by kernel_rfl) (by kernel_rfl) (by decide) (qpos_i64 (by omega) (by omega) (by omega))) fun a w hF hM => ?_
        exact ⟨((hF.repl 7 (by kernel_rfl)).cast (by kernel_rfl)), (hM.cast (by kernel_rfl))⟩
      · intro s0 s1 s2 s3 s4 s5 s6 s7 s8 s9 s10 s11 s12 s13 s14 s15 s16 s17 s18 s19 s20 s21 s22 s23 hc hi hp a w hS
        obtain rfl : s3 = false := hi
        obtain rfl : s2 = true := hp 2 (by kernel_rfl)
        obtain ⟨hF, hM⟩ := hS
        refine eP 27 (v0 := .int .i64 (IntKind.i64.wrap (1 + xab / 2))) (v := .int .i64 ab) hF (by kernel_rfl) (fun _ => by kernel_rfl) (vi ((w64 (by omega)).trans hab1)) fun a hF => ?_
        exact ⟨((hF.repl 8 (by kernel_rfl)).cast (by kernel_rfl)), (hM.cast (by kernel_rfl))⟩
      · intro s0 s1 s2 s3 s4 s5 s6 s7 s8 s9 s10 s11 s12 s13 s14 s15 s16 s17 s18 s19 s20 s21 s22 s23 hc hi hp a w hS
        obtain rfl : s4 = false := hi
        obtain rfl : s19 = false := hc.f 19 4 (by kernel_rfl) rfl
        obtain rfl : s23 = false := hc.f 23 4 (by kernel_rfl) rfl
        obtain ⟨hF, hM⟩ := hS
        refine eP 28 (v0 := .pointer (some ⟨bb3, 0, none⟩)) (v := .pointer (some ⟨bb3, 0, none⟩)) hF (by kernel_rfl) (fun _ => by kernel_rfl) rfl fun a hF => ?_
        exact ⟨((hF.repl 9 (by kernel_rfl)).cast (by kernel_rfl)), (hM.cast (by kernel_rfl))⟩
      · intro s0 s1 s2 s3 s4 s5 s6 s7 s8 s9 s10 s11 s12 s13 s14 s15 s16 s17 s18 s19 s20 s21 s22 s23 hc hi hp a w hS
        obtain rfl : s5 = false := hi
        obtain rfl : s4 = true := hp 4 (by kernel_rfl)
        obtain rfl : s19 = false := hc.f 19 5 (by kernel_rfl) rfl
        obtain rfl : s23 = false := hc.f 23 5 (by kernel_rfl) rfl
        obtain ⟨hF, hM⟩ := hS
        refine eL 29 8 0 (v := .int .i64 xbb) hF hM (by kernel_rfl) rfl rfl (by kernel_rfl) (by kernel_rfl) fun a w hF hM => ?_
        exact ⟨((hF.repl 10 (by kernel_rfl)).cast (by kernel_rfl)), (hM.cast (by kernel_rfl))⟩
      · intro s0 s1 s2 s3 s4 s5 s6 s7 s8 s9 s10 s11 s12 s13 s14 s15 s16 s17 s18 s19 s20 s21 s22 s23 hc hi hp a w hS
        obtain rfl : s6 = false := hi
        obtain rfl : s5 = true := hp 5 (by kernel_rfl)
        obtain ⟨hF, hM⟩ := hS
        refine eM 30 (v := .int .i64 (xbb / 2)) hF hM (by kernel_rfl) (yld_quo xbb 2 hF rfl (by kernel_rfl) (by kernel_rfl) (by kernel_rfl) (by decide) (qpos_i64 (by omega) (by omega) (by omega))) fun a w hF hM => ?_
        exact ⟨((hF.repl 11 (by kernel_rfl)).cast (by kernel_rfl)), (hM.cast (by kernel_rfl))⟩
      · intro s0 s1 s2 s3 s4 s5 s6 s7 s8 s9 s10 s11 s12 s13 s14 s15 s16 s17 s18 s19 s20 s21 s22 s23 hc hi hp a w hS
        obtain rfl : s7 = false := hi
        obtain rfl : s6 = true := hp 6 (by kernel_rfl)
        obtain ⟨hF, hM⟩ := hS
        refine eP 31 (v0 := .int .i64 (IntKind.i64.wrap (1 + xbb / 2))) (v := .int .i64 bb_) hF (by kernel_rfl) (fun _ => by kernel_rfl) (vi ((w64 (by omega)).trans hbb_1)) fun a hF => ?_
        exact ⟨((hF.repl 12 (by kernel_rfl)).cast (by kernel_rfl)), (hM.cast (by kernel_rfl))⟩
      · intro s0 s1 s2 s3 s4 s5 s6 s7 s8 s9 s10 s11 s12 s13 s14 s15 s16 s17 s18 s19 s20 s21 s22 s23 hc hi hp a w hS
        obtain rfl : s8 = false := hi
        obtain rfl : s17 = false := hc.f 17 8 (by kernel_rfl) rfl
        obtain rfl : s21 = false := hc.f 21 8 (by kernel_rfl) rfl
        obtain ⟨hF, hM⟩ := hS
        refine eP 32 (v0 := .pointer (some ⟨bb2, 1, none⟩)) (v := .pointer (some ⟨bb2, 1, none⟩)) hF (by kernel_rfl) (fun _ => by kernel_rfl) rfl fun a hF => ?_
        exact ⟨((hF.repl 13 (by kernel_rfl)).cast (by kernel_rfl)), (hM.cast (by kernel_rfl))⟩
      · intro s0 s1 s2 s3 s4 s5 s6 s7 s8 s9 s10 s11 s12 s13 s14 s15 s16 s17 s18 s19 s20 s21 s22 s23 hc hi hp a w hS
        obtain rfl : s9 = false := hi
        obtain rfl : s8 = true := hp 8 (by kernel_rfl)
        obtain rfl : s17 = false := hc.f 17 9 (by kernel_rfl) rfl
        obtain rfl : s21 = false := hc.f 21 9 (by kernel_rfl) rfl
        obtain ⟨hF, hM⟩ := hS
        refine eL 33 7 1 (v := .int .i64 xar) hF hM (by kernel_rfl) rfl rfl (by kernel_rfl) (by kernel_rfl) fun a w hF hM => ?_
        exact ⟨((hF.repl 14 (by kernel_rfl)).cast (by kernel_rfl)), (hM.cast (by kernel_rfl))⟩
      · intro s0 s1 s2 s3 s4 s5 s6 s7 s8 s9 s10 s11 s12 s13 s14 s15 s16 s17 s18 s19 s20 s21 s22 s23 hc hi hp a w hS
        obtain rfl : s10 = false := hi
        obtain rfl : s9 = true := hp 9 (by kernel_rfl)
        obtain ⟨hF, hM⟩ := hS
        refine eM 34 (v := .int .i64 (xar / 4)) hF hM (by kernel_rfl) (yld_quo xar 4 hF rfl (by kernel_rfl) (by kernel_rfl) (by kernel_rfl) (by decide) (qpos_i64 (by omega) (by omega) (by omega))) fun a w hF hM => ?_
        exact ⟨((hF.repl 15 (by kernel_rfl)).cast (by kernel_rfl)), (hM.cast (by kernel_rfl))⟩
      · intro s0 s1 s2 s3 s4 s5 s6 s7 s8 s9 s10 s11 s12 s13 s14 s15 s16 s17 s18 s19 s20 s21 s22 s23 hc hi hp a w hS
        obtain rfl : s11 = false := hi
        obtain rfl : s10 = true := hp 10 (by kernel_rfl)
        obtain ⟨hF, hM⟩ := hS
        refine eP 35 (v0 := .int .i64 (IntKind.i64.wrap (1 + xar / 4))) (v := .int .i64 ar) hF (by kernel_rfl) (fun _ => by kernel_rfl) (vi ((w64 (by omega)).trans har1)) fun a hF => ?_
        exact ⟨((hF.repl 16 (by kernel_rfl)).cast (by kernel_rfl)), (hM.cast (by kernel_rfl))⟩
      · intro s0 s1 s2 s3 s4 s5 s6 s7 s8 s9 s10 s11 s12 s13 s14 s15 s16 s17 s18 s19 s20 s21 s22 s23 hc hi hp a w hS
        obtain rfl : s12 = false := hi
        obtain rfl : s19 = false := hc.f 19 12 (by kernel_rfl) rfl
        obtain rfl : s23 = false := hc.f 23 12 (by kernel_rfl) rfl
        obtain ⟨hF, hM⟩ := hS
        refine eP 36 (v0 := .pointer (some ⟨bb3, 1, none⟩)) (v := .pointer (some ⟨bb3, 1, none⟩)) hF (by kernel_rfl) (fun _ => by kernel_rfl) rfl fun a hF => ?_
        exact ⟨((hF.repl 17 (by kernel_rfl)).cast (by kernel_rfl)), (hM.cast (by kernel_rfl))⟩
      · intro s0 s1 s2 s3 s4 s5 s6 s7 s8 s9 s10 s11 s12 s13 s14 s15 s16 s17 s18 s19 s20 s21 s22 s23 hc hi hp a w hS
        obtain rfl : s13 = false := hi
        obtain rfl : s12 = true := hp 12 (by kernel_rfl)
        obtain rfl : s19 = false := hc.f 19 13 (by kernel_rfl) rfl
        obtain rfl : s23 = false := hc.f 23 13 (by kernel_rfl) rfl
        obtain ⟨hF, hM⟩ := hS
        refine eL 37 8 1 (v := .int .i64 xbr) hF hM (by kernel_rfl) rfl rfl (by kernel_rfl) (by kernel_rfl) fun a w hF hM => ?_
        exact ⟨((hF.repl 18 (by kernel_rfl)).cast (by kernel_rfl)), (hM.cast (by kernel_rfl))⟩
      · intro s0 s1 s2 s3 s4 s5 s6 s7 s8 s9 s10 s11 s12 s13 s14 s15 s16 s17 s18 s19 s20 s21 s22 s23 hc hi hp a w hS
        obtain rfl : s14 = false := hi
        obtain rfl : s13 = true := hp 13 (by kernel_rfl)
        obtain ⟨hF, hM⟩ := hS
        refine eM 38 (v := .int .i64 (xbr / 4)) hF hM (by kernel_rfl) (yld_quo xbr 4 hF rfl (by kernel_rfl) (by kernel_rfl) (by kernel_rfl) (by decide) (qpos_i64 (by omega) (by omega) (by omega))) fun a w hF hM => ?_
        exact ⟨((hF.repl 19 (by kernel_rfl)).cast (by kernel_rfl)), (hM.cast (by kernel_rfl))⟩
      · intro s0 s1 s2 s3 s4 s5 s6 s7 s8 s9 s10 s11 s12 s13 s14 s15 s16 s17 s18 s19 s20 s21 s22 s23 hc hi hp a w hS
        obtain rfl : s15 = false := hi
        obtain rfl : s14 = true := hp 14 (by kernel_rfl)
        obtain ⟨hF, hM⟩ := hS
        refine eP 39 (v0 := .int .i64 (IntKind.i64.wrap (1 + xbr / 4))) (v := .int .i64 br) hF (by kernel_rfl) (fun _ => by kernel_rfl) (vi ((w64 (by omega)).trans hbr1)) fun a hF => ?_
        exact ⟨((hF.repl 20 (by kernel_rfl)).cast (by kernel_rfl)), (hM.cast (by kernel_rfl))⟩
      · intro s0 s1 s2 s3 s4 s5 s6 s7 s8 s9 s10 s11 s12 s13 s14 s15 s16 s17 s18 s19 s20 s21 s22 s23 hc hi hp a w hS
        obtain rfl : s16 = false := hi
        obtain rfl : s17 = false := hc.f 17 16 (by kernel_rfl) rfl
        obtain rfl : s21 = false := hc.f 21 16 (by kernel_rfl) rfl
        obtain ⟨hF, hM⟩ := hS
        refine eP 40 (v0 := .pointer (some ⟨bb2, 0, none⟩)) (v := .pointer (some ⟨bb2, 0, none⟩)) hF (by kernel_rfl) (fun _ => by kernel_rfl) rfl fun a hF => ?_
        exact ⟨((hF.repl 21 (by kernel_rfl)).cast (by kernel_rfl)), (hM.cast (by kernel_rfl))⟩
      · intro s0 s1 s2 s3 s4 s5 s6 s7 s8 s9 s10 s11 s12 s13 s14 s15 s16 s17 s18 s19 s20 s21 s22 s23 hc hi hp a w hS
        obtain rfl : s17 = false := hi
        obtain rfl : s16 = true := hp 16 (by kernel_rfl)
        obtain rfl : s3 = true := hp 3 (by kernel_rfl)
        obtain rfl : s21 = false := hc.f 21 17 (by kernel_rfl) rfl
        obtain ⟨hF, hM⟩ := hS
        refine sStore (i := 7) (off := 0) (cs' := #[.int .i64 ab, .int .i64 xar]) hF hM (by kernel_rfl) rfl rfl (by kernel_rfl) (by kernel_rfl) rfl (by kernel_rfl) fun w hM => ?_
        exact ⟨(hF.cast (by kernel_rfl)), ((hM.repl 6 (by kernel_rfl)).cast (by kernel_rfl))⟩
      · intro s0 s1 s2 s3 s4 s5 s6 s7 s8 s9 s10 s11 s12 s13 s14 s15 s16 s17 s18 s19 s20 s21 s22 s23 hc hi hp a w hS
        obtain rfl : s18 = false := hi
        obtain rfl : s19 = false := hc.f 19 18 (by kernel_rfl) rfl
        obtain rfl : s23 = false := hc.f 23 18 (by kernel_rfl) rfl
        obtain ⟨hF, hM⟩ := hS
        refine eP 41 (v0 := .pointer (some ⟨bb3, 0, none⟩)) (v := .pointer (some ⟨bb3, 0, none⟩)) hF (by kernel_rfl) (fun _ => by kernel_rfl) rfl fun a hF => ?_
        exact ⟨((hF.repl 22 (by kernel_rfl)).cast (by kernel_rfl)), (hM.cast (by kernel_rfl))⟩
      · intro s0 s1 s2 s3 s4 s5 s6 s7 s8 s9 s10 s11 s12 s13 s14 s15 s16 s17 s18 s19 s20 s21 s22 s23 hc hi hp a w hS
        obtain rfl : s19 = false := hi
        obtain rfl : s18 = true := hp 18 (by kernel_rfl)
        obtain rfl : s7 = true := hp 7 (by kernel_rfl)
        obtain rfl : s23 = false := hc.f 23 19 (by kernel_rfl) rfl
        obtain ⟨hF, hM⟩ := hS
        refine sStore (i := 8) (off := 0) (cs' := #[.int .i64 bb_, .int .i64 xbr]) hF hM (by kernel_rfl) rfl rfl (by kernel_rfl) (by kernel_rfl) rfl (by kernel_rfl) fun w hM => ?_
        exact ⟨(hF.cast (by kernel_rfl)), ((hM.repl 7 (by kernel_rfl)).cast (by kernel_rfl))⟩
      · intro s0 s1 s2 s3 s4 s5 s6 s7 s8 s9 s10 s11 s12 s13 s14 s15 s16 s17 s18 s19 s20 s21 s22 s23 hc hi hp a w hS
        obtain rfl : s20 = false := hi
        obtain rfl : s17 = true := hp 17 (by kernel_rfl)
        obtain rfl : s21 = false := hc.f 21 20 (by kernel_rfl) rfl
        obtain ⟨hF, hM⟩ := hS
        refine eP 42 (v0 := .pointer (some ⟨bb2, 1, none⟩)) (v := .pointer (some ⟨bb2, 1, none⟩)) hF (by kernel_rfl) (fun _ => by kernel_rfl) rfl fun a hF => ?_
        exact ⟨((hF.repl 23 (by kernel_rfl)).cast (by kernel_rfl)), (hM.cast (by kernel_rfl))⟩
      · intro s0 s1 s2 s3 s4 s5 s6 s7 s8 s9 s10 s11 s12 s13 s14 s15 s16 s17 s18 s19 s20 s21 s22 s23 hc hi hp a w hS
        obtain rfl : s21 = false := hi
        obtain rfl : s20 = true := hp 20 (by kernel_rfl)
        obtain rfl : s17 = true := hp 17 (by kernel_rfl)
        obtain rfl : s11 = true := hp 11 (by kernel_rfl)
        obtain ⟨hF, hM⟩ := hS
        refine sStore (i := 7) (off := 1) (cs' := #[.int .i64 ab, .int .i64 ar]) hF hM (by kernel_rfl) rfl rfl (by kernel_rfl) (by kernel_rfl) rfl (by kernel_rfl) fun w hM => ?_
        exact ⟨(hF.cast (by kernel_rfl)), ((hM.repl 6 (by kernel_rfl)).cast (by kernel_rfl))⟩
      · intro s0 s1 s2 s3 s4 s5 s6 s7 s8 s9 s10 s11 s12 s13 s14 s15 s16 s17 s18 s19 s20 s21 s22 s23 hc hi hp a w hS
        obtain rfl : s22 = false := hi
        obtain rfl : s19 = true := hp 19 (by kernel_rfl)
        obtain rfl : s23 = false := hc.f 23 22 (by kernel_rfl) rfl
        obtain ⟨hF, hM⟩ := hS
        refine eP 43 (v0 := .pointer (some ⟨bb3, 1, none⟩)) (v := .pointer (some ⟨bb3, 1, none⟩)) hF (by kernel_rfl) (fun _ => by kernel_rfl) rfl fun a hF => ?_
        exact ⟨((hF.repl 24 (by kernel_rfl)).cast (by kernel_rfl)), (hM.cast (by kernel_rfl))⟩
      · intro s0 s1 s2 s3 s4 s5 s6 s7 s8 s9 s10 s11 s12 s13 s14 s15 s16 s17 s18 s19 s20 s21 s22 s23 hc hi hp a w hS
        obtain rfl : s23 = false := hi
        obtain rfl : s22 = true := hp 22 (by kernel_rfl)
        obtain rfl : s19 = true := hp 19 (by kernel_rfl)
        obtain rfl : s15 = true := hp 15 (by kernel_rfl)
        obtain ⟨hF, hM⟩ := hS
        refine sStore (i := 8) (off := 1) (cs' := #[.int .i64 bb_, .int .i64 br]) hF hM (by kernel_rfl) rfl rfl (by kernel_rfl) (by kernel_rfl) rfl (by kernel_rfl) fun w hM => ?_
        exact ⟨(hF.cast (by kernel_rfl)), ((hM.repl 7 (by kernel_rfl)).cast (by kernel_rfl))⟩
    · intro a w hS
      obtain ⟨hF, hM⟩ := hS
      replace hF : Fr 180 [(1, some (.slice Ka kl.length ck)), (2, some (.pointer (some ⟨bb1, 0, none⟩))), (4, some (.bool false)), (5, some (.pointer (some ⟨bb2, 0, none⟩))), (6, some (.pointer (some ⟨bb3, 0, none⟩))), (24, some (.pointer (some ⟨bb2, 0, none⟩))), (25, some (.int .i64 xab)), (26, some (.int .i64 (xab / 2))), (27, some (.int .i64 ab)), (28, some (.pointer (some ⟨bb3, 0, none⟩))), (29, some (.int .i64 xbb)), (30, some (.int .i64 (xbb / 2))), (31, some (.int .i64 bb_)), (32, some (.pointer (some ⟨bb2, 1, none⟩))), (33, some (.int .i64 xar)), (34, some (.int .i64 (xar / 4))), (35, some (.int .i64 ar)), (36, some (.pointer (some ⟨bb3, 1, none⟩))), (37, some (.int .i64 xbr)), (38, some (.int .i64 (xbr / 4))), (39, some (.int .i64 br)), (40, some (.pointer (some ⟨bb2, 0, none⟩))), (41, some (.pointer (some ⟨bb3, 0, none⟩))), (42, some (.pointer (some ⟨bb2, 1, none⟩))), (43, some (.pointer (some ⟨bb3, 1, none⟩)))] a := hF.cast (by kernel_rfl)
      replace hM : Mem w0.heap.size w0 [(1, some (.ro Gaa (gapsa.map (Value.int .u16)))), (2, some (.ro Saa (sizesa.map (Value.int .u16)))), (3, some (.ro Gab (gapsb.map (Value.int .u16)))), (4, some (.ro Sab (sizesb.map (Value.int .u16)))), (5, some (.ro Ka (kl.map Value.bool))), (6, some (.row bb1 63 #[.int .u32 bua, .int .u32 raa, .slice Gaa gapsa.length cga, .slice Saa sizesa.length csa, .int .u32 bub, .int .u32 rab, .slice Gab gapsb.length cgb, .slice Sab sizesb.length csb])), (7, some (.row bb2 23 #[.int .i64 ab, .int .i64 ar])), (8, some (.row bb3 23 #[.int .i64 bb_, .int .i64 br]))] w := hM.cast (by kernel_rfl)
      refine hK5 _ _ ?_
      refine wp_seq_k fun K6 hK6 => ?_
      refine rF (by kernel_rfl) (by kernel_rfl) (fun S a w => Fr 180 [(1, some (.slice Ka kl.length ck)), (2, some (.pointer (some ⟨bb1, 0, none⟩))), (4, some (.bool false)), (5, some (.pointer (some ⟨bb2, 0, none⟩))), (6, some (.pointer (some ⟨bb3, 0, none⟩))), (44, (cond (S.getD 0 false) (some (.pointer (some ⟨bb2, 0, none⟩))) none)), (45, (cond (S.getD 1 false) (some (.int .i64 ab)) none)), (46, (cond (S.getD 2 false) (some (.int .i64 (ab - 1))) none)), (47, (cond (S.getD 3 false) (some (.int .u32 (ab - 1))) none)), (48, (cond (S.getD 4 false) (some (.pointer (some ⟨bb2, 1, none⟩))) none)), (49, (cond (S.getD 5 false) (some (.int .i64 ar)) none)), (50, (cond (S.getD 6 false) (some (.int .i64 (ar - 1))) none)), (51, (cond (S.getD 7 false) (some (.int .u32 (ar - 1))) none)), (52, (cond (S.getD 8 false) (some (.pointer (some ⟨bb3, 0, none⟩))) none)), (53, (cond (S.getD 9 false) (some (.int .i64 bb_)) none)), (54, (cond (S.getD 10 false) (some (.int .i64 (bb_ - 1))) none)), (55, (cond (S.getD 11 false) (some (.int .u32 (bb_ - 1))) none)), (56, (cond (S.getD 12 false) (some (.pointer (some ⟨bb3, 1, none⟩))) none)), (57, (cond (S.getD 13 false) (some (.int .i64 br)) none)), (58, (cond (S.getD 14 false) (some (.int .i64 (br - 1))) none)), (59, (cond (S.getD 15 false) (some (.int .u32 (br - 1))) none)), (60, (cond (S.getD 16 false) (some (.pointer (some ⟨bb1, 0, none⟩))) none)), (61, (cond (S.getD 17 false) (some (.pointer (some ⟨bb1, 0, none⟩))) none)), (62, (cond (S.getD 19 false) (some (.pointer (some ⟨bb1, 0, none⟩))) none)), (63, (cond (S.getD 20 false) (some (.pointer (some ⟨bb1, 1, none⟩))) none)), (64, (cond (S.getD 22 false) (some (.pointer (some ⟨bb1, 4, none⟩))) none)), (65, (cond (S.getD 23 false) (some (.pointer (some ⟨bb1, 4, none⟩))) none)), (66, (cond (S.getD 25 false) (some (.pointer (some ⟨bb1, 4, none⟩))) none)), (67, (cond (S.getD 26 false) (some (.pointer (some ⟨bb1, 5, none⟩))) none))] a ∧ Mem w0.heap.size w0 [(1, some (.ro Gaa (gapsa.map (Value.int .u16)))), (2, some (.ro Saa (sizesa.map (Value.int .u16)))), (3, some (.ro Gab (gapsb.map (Value.int .u16)))), (4, some (.ro Sab (sizesb.map (Value.int .u16)))), (5, some (.ro Ka (kl.map Value.bool))), (6, (cond (S.getD 27 false) (some (.row bb1 63 #[.int .u32 (ab - 1), .int .u32 (ar - 1), .slice Gaa gapsa.length cga, .slice Saa sizesa.length csa, .int .u32 (bb_ - 1), .int .u32 (br - 1), .slice Gab gapsb.length cgb, .slice Sab sizesb.length csb])) (cond (S.getD 24 false) (some (.row bb1 63 #[.int .u32 (ab - 1), .int .u32 (ar - 1), .slice Gaa gapsa.length cga, .slice Saa sizesa.length csa, .int .u32 (bb_ - 1), .int .u32 rab, .slice Gab gapsb.length cgb, .slice Sab sizesb.length csb])) (cond (S.getD 21 false) (some (.row bb1 63 #[.int .u32 (ab - 1), .int .u32 (ar - 1), .slice Gaa gapsa.length cga, .slice Saa sizesa.length csa, .int .u32 bub, .int .u32 rab, .slice Gab gapsb.length cgb, .slice Sab sizesb.length csb])) (cond (S.getD 18 false) (some (.row bb1 63 #[.int .u32 (ab - 1), .int .u32 raa, .slice Gaa gapsa.length cga, .slice Saa sizesa.length csa, .int .u32 bub, .int .u32 rab, .slice Gab gapsb.length cgb, .slice Sab sizesb.length csb])) (some (.row bb1 63 #[.int .u32 bua, .int .u32 raa, .slice Gaa gapsa.length cga, .slice Saa sizesa.length csa, .int .u32 bub, .int .u32 rab, .slice Gab gapsb.length cgb, .slice Sab sizesb.length csb]))))))), (7, some (.row bb2 23 #[.int .i64 ab, .int .i64 ar])), (8, some (.row bb3 23 #[.int .i64 bb_, .int .i64 br]))] w) ?_ ?_ ?_
      · exact ⟨((((((((((((((((((((((((((((((Fr.nil hF).co hF (i := 67) (by kernel_rfl)).co hF (i := 66) (by kernel_rfl)).co hF (i := 65) (by kernel_rfl)).co hF (i := 64) (by kernel_rfl)).co hF (i := 63) (by kernel_rfl)).co hF (i := 62) (by kernel_rfl)).co hF (i := 61) (by kernel_rfl)).co hF (i := 60) (by kernel_rfl)).co hF (i := 59) (by kernel_rfl)).co hF (i := 58) (by kernel_rfl)).co hF (i := 57) (by kernel_rfl)).co hF (i := 56) (by kernel_rfl)).co hF (i := 55) (by kernel_rfl)).co hF (i := 54) (by kernel_rfl)).co hF (i := 53) (by kernel_rfl)).co hF (i := 52) (by kernel_rfl)).co hF (i := 51) (by kernel_rfl)).co hF (i := 50) (by kernel_rfl)).co hF (i := 49) (by kernel_rfl)).co hF (i := 48) (by kernel_rfl)).co hF (i := 47) (by kernel_rfl)).co hF (i := 46) (by kernel_rfl)).co hF (i := 45) (by kernel_rfl)).co hF (i := 44) (by kernel_rfl)).co hF (i := 6) (by kernel_rfl)).co hF (i := 5) (by kernel_rfl)).co hF (i := 4) (by kernel_rfl)).co hF (i := 2) (by kernel_rfl)).co hF (i := 1) (by kernel_rfl)), hM.drew.sub ((((((((Sub.nil.co (k := 8) (by kernel_rfl)).co (k := 7) (by kernel_rfl)).co (k := 6) (by kernel_rfl)).co (k := 5) (by kernel_rfl)).co (k := 4) (by kernel_rfl)).co (k := 3) (by kernel_rfl)).co (k := 2) (by kernel_rfl)).co (k := 1) (by kernel_rfl))⟩
      · refine stC ?_ (stC ?_ (stC ?_ (stC ?_ (stC ?_ (stC ?_ (stC ?_ (stC ?_ (stC ?_ (stC ?_ (stC ?_ (stC ?_ (stC ?_ (stC ?_ (stC ?_ (stC ?_ (stC ?_ (stC ?_ (stC ?_ (stC ?_ (stC ?_ (stC ?_ (stC ?_ (stC ?_ (stC ?_ (stC ?_ (stC ?_ (stC ?_ (trivial))))))))))))))))))))))))))))
        · intro s0 s1 s2 s3 s4 s5 s6 s7 s8 s9 s10 s11 s12 s13 s14 s15 s16 s17 s18 s19 s20 s21 s22 s23 s24 s25 s26 s27 hc hi hp a w hS
          obtain rfl : s0 = false := hi
          obtain ⟨hF, hM⟩ := hS
          refine eP 44 (v0 := .pointer (some ⟨bb2, 0, none⟩)) (v := .pointer (some ⟨bb2, 0, none⟩)) hF (by kernel_rfl) (fun _ => by kernel_rfl) rfl fun a hF => ?_
          exact ⟨((hF.repl 5 (by kernel_rfl)).cast (by kernel_rfl)), (hM.cast (by kernel_rfl))⟩
        · intro s0 s1 s2 s3 s4 s5 s6 s7 s8 s9 s10 s11 s12 s13 s14 s15 s16 s17 s18 s19 s20 s21 s22 s23 s24 s25 s26 s27 hc hi hp a w hS
          obtain rfl : s1 = false := hi
          obtain rfl : s0 = true := hp 0 (by kernel_rfl)
          obtain ⟨hF, hM⟩ := hS
          refine eL 45 7 0 (v := .int .i64 ab) hF hM (by kernel_rfl) rfl rfl (by kernel_rfl) (by kernel_rfl) fun a w hF hM => ?_
          exact ⟨((hF.repl 6 (by kernel_rfl)).cast (by kernel_rfl)), (hM.cast (by kernel_rfl))⟩
        · intro s0 s1 s2 s3 s4 s5 s6 s7 s8 s9 s10 s11 s12 s13 s14 s15 s16 s17 s18 s19 s20 s21 s22 s23 s24 s25 s26 s27 hc hi hp a w hS
          obtain rfl : s2 = false := hi
          obtain rfl : s1 = true := hp 1 (by kernel_rfl)
          obtain ⟨hF, hM⟩ := hS
          refine eP 46 (v0 := .int .i64 (IntKind.i64.wrap (ab - 1))) (v := .int .i64 (ab - 1)) hF (by kernel_rfl) (fun _ => by kernel_rfl) (wi (by omega)) fun a hF => ?_
          exact ⟨((hF.repl 7 (by kernel_rfl)).cast (by kernel_rfl)), (hM.cast (by kernel_rfl))⟩
        · intro s0 s1 s2 s3 s4 s5 s6 s7 s8 s9 s10 s11 s12 s13 s14 s15 s16 s17 s18 s19 s20 s21 s22 s23 s24 s25 s26 s27 hc hi hp a w hS
          obtain rfl : s3 = false := hi
          obtain rfl : s2 = true := hp 2 (by kernel_rfl)
          obtain ⟨hF, hM⟩ := hS
          refine eP 47 (v0 := .int .u32 (IntKind.u32.wrap (ab - 1))) (v := .int .u32 (ab - 1)) hF (by kernel_rfl) (fun _ => by kernel_rfl) (vi (IntWalk.u32_in _ (by omega))) fun a hF => ?_
          exact ⟨((hF.repl 8 (by kernel_rfl)).cast (by kernel_rfl)), (hM.cast (by kernel_rfl))⟩
        · intro s0 s1 s2 s3 s4 s5 s6 s7 s8 s9 s10 s11 s12 s13 s14 s15 s16 s17 s18 s19 s20 s21 s22 s23 s24 s25 s26 s27 hc hi hp a w hS
          obtain rfl : s4 = false := hi
          obtain ⟨hF, hM⟩ := hS
          refine eP 48 (v0 := .pointer (some ⟨bb2, 1, none⟩)) (v := .pointer (some ⟨bb2, 1, none⟩)) hF (by kernel_rfl) (fun _ => by kernel_rfl) rfl fun a hF => ?_
          exact ⟨((hF.repl 9 (by kernel_rfl)).cast (by kernel_rfl)), (hM.cast (by kernel_rfl))⟩
        · intro s0 s1 s2 s3 s4 s5 s6 s7 s8 s9 s10 s11 s12 s13 s14 s15 s16 s17 s18 s19 s20 s21 s22 s23 s24 s25 s26 s27 hc hi hp a w hS
          obtain rfl : s5 = false := hi
          obtain rfl : s4 = true := hp 4 (by kernel_rfl)
          obtain ⟨hF, hM⟩ := hS
          refine eL 49 7 1 (v := .int .i64 ar) hF hM (by kernel_rfl) rfl rfl (by kernel_rfl) (by kernel_rfl) fun a w hF hM => ?_
          exact ⟨((hF.repl 10 (by kernel_rfl)).cast (by kernel_rfl)), (hM.cast (by kernel_rfl))⟩
        · intro s0 s1 s2 s3 s4 s5 s6 s7 s8 s9 s10 s11 s12 s13 s14 s15 s16 s17 s18 s19 s20 s21 s22 s23 s24 s25 s26 s27 hc hi hp a w hS
          obtain rfl : s6 = false := hi
          obtain rfl : s5 = true := hp 5 (by kernel_rfl)
          obtain ⟨hF, hM⟩ := hS
          refine eP 50 (v0 := .int .i64 (IntKind.i64.wrap (ar - 1))) (v := .int .i64 (ar - 1)) hF (by kernel_rfl) (fun _ => by kernel_rfl) (wi (by omega)) fun a hF => ?_
          exact ⟨((hF.repl 11 (by kernel_rfl)).cast (by kernel_rfl)), (hM.cast (by kernel_rfl))⟩
        · intro s0 s1 s2 s3 s4 s5 s6 s7 s8 s9 s10 s11 s12 s13 s14 s15 s16 s17 s18 s19 s20 s21 s22 s23 s24 s25 s26 s27 hc hi hp a w hS
          obtain rfl : s7 = false := hi
          obtain rfl : s6 = true := hp 6 (by kernel_rfl)
          obtain ⟨hF, hM⟩ := hS
          refine eP 51 (v0 := .int .u32 (IntKind.u32.wrap (ar - 1))) (v := .int .u32 (ar - 1)) hF (by kernel_rfl) (fun _ => by kernel_rfl) (vi (IntWalk.u32_in _ (by omega))) fun a hF => ?_
          exact ⟨((hF.repl 12 (by kernel_rfl)).cast (by kernel_rfl)), (hM.cast (by kernel_rfl))⟩
        · intro s0 s1 s2 s3 s4 s5 s6 s7 s8 s9 s10 s11 s12 s13 s14 s15 s16 s17 s18 s19 s20 s21 s22 s23 s24 s25 s26 s27 hc hi hp a w hS
          obtain rfl : s8 = false := hi
          obtain ⟨hF, hM⟩ := hS
          refine eP 52 (v0 := .pointer (some ⟨bb3, 0, none⟩)) (v := .pointer (some ⟨bb3, 0, none⟩)) hF (by kernel_rfl) (fun _ => by kernel_rfl) rfl fun a hF => ?_
          exact ⟨((hF.repl 13 (by kernel_rfl)).cast (by kernel_rfl)), (hM.cast (by kernel_rfl))⟩
        · intro s0 s1 s2 s3 s4 s5 s6 s7 s8 s9 s10 s11 s12 s13 s14 s15 s16 s17 s18 s19 s20 s21 s22 s23 s24 s25 s26 s27 hc hi hp a w hS
          obtain rfl : s9 = false := hi
          obtain rfl : s8 = true := hp 8 (by kernel_rfl)
          obtain ⟨hF, hM⟩ := hS
          refine eL 53 8 0 (v := .int .i64 bb_) hF hM (by kernel_rfl) rfl rfl (by kernel_rfl) (by kernel_rfl) fun a w hF hM => ?_
          exact ⟨((hF.repl 14 (by kernel_rfl)).cast (by kernel_rfl)), (hM.cast (by kernel_rfl))⟩
        · intro s0 s1 s2 s3 s4 s5 s6 s7 s8 s9 s10 s11 s12 s13 s14 s15 s16 s17 s18 s19 s20 s21 s22 s23 s24 s25 s26 s27 hc hi hp a w hS
          obtain rfl : s10 = false := hi
          obtain rfl : s9 = true := hp 9 (by kernel_rfl)
          obtain ⟨hF, hM⟩ := hS
          refine eP 54 (v0 := .int .i64 (IntKind.i64.wrap (bb_ - 1))) (v := .int .i64 (bb_ - 1)) hF (by kernel_rfl) (fun _ => by kernel_rfl) (wi (by omega)) fun a hF => ?_
          exact ⟨((hF.repl 15 (by kernel_rfl)).cast (by kernel_rfl)), (hM.cast (by kernel_rfl))⟩
        · intro s0 s1 s2 s3 s4 s5 s6 s7 s8 s9 s10 s11 s12 s13 s14 s15 s16 s17 s18 s19 s20 s21 s22 s23 s24 s25 s26 s27 hc hi hp a w hS
          obtain rfl : s11 = false := hi
          obtain rfl : s10 = true := hp 10 (by kernel_rfl)
          obtain ⟨hF, hM⟩ := hS
          refine eP 55 (v0 := .int .u32 (IntKind.u32.wrap (bb_ - 1))) (v := .int .u32 (bb_ - 1)) hF (by kernel_rfl) (fun _ => by kernel_rfl) (vi (IntWalk.u32_in _ (by omega))) fun a hF => ?_
          exact ⟨((hF.repl 16 (by kernel_rfl)).cast (by kernel_rfl)), (hM.cast (by kernel_rfl))⟩
        · intro s0 s1 s2 s3 s4 s5 s6 s7 s8 s9 s10 s11 s12 s13 s14 s15 s16 s17 s18 s19 s20 s21 s22 s23 s24 s25 s26 s27 hc hi hp a w hS
          obtain rfl : s12 = false := hi
          obtain ⟨hF, hM⟩ := hS
          refine eP 56 (v0 := .pointer (some ⟨bb3, 1, none⟩)) (v := .pointer (some ⟨bb3, 1, none⟩)) hF (by kernel_rfl) (fun _ => by kernel_rfl) rfl fun a hF => ?_
          exact ⟨((hF.repl 17 (by kernel_rfl)).cast (by kernel_rfl)), (hM.cast (by kernel_rfl))⟩
        · intro s0 s1 s2 s3 s4 s5 s6 s7 s8 s9 s10 s11 s12 s13 s14 s15 s16 s17 s18 s19 s20 s21 s22 s23 s24 s25 s26 s27 hc hi hp a w hS
          obtain rfl : s13 = false := hi
          obtain rfl : s12 = true := hp 12 (by kernel_rfl)
          obtain ⟨hF, hM⟩ := hS
          refine eL 57 8 1 (v := .int .i64 br) hF hM (by kernel_rfl) rfl rfl (by kernel_rfl) (by kernel_rfl) fun a w hF hM => ?_
          exact ⟨((hF.repl 18 (by kernel_rfl)).cast (by kernel_rfl)), (hM.cast (by kernel_rfl))⟩
        · intro s0 s1 s2 s3 s4 s5 s6 s7 s8 s9 s10 s11 s12 s13 s14 s15 s16 s17 s18 s19 s20 s21 s22 s23 s24 s25 s26 s27 hc hi hp a w hS
          obtain rfl : s14 = false := hi
          obtain rfl : s13 = true := hp 13 (by kernel_rfl)
          obtain ⟨hF, hM⟩ := hS
          refine eP 58 (v0 := .int .i64 (IntKind.i64.wrap (br - 1))) (v := .int .i64 (br - 1)) hF (by kernel_rfl) (fun _ => by kernel_rfl) (wi (by omega)) fun a hF => ?_
          exact ⟨((hF.repl 19 (by kernel_rfl)).cast (by kernel_rfl)), (hM.cast (by kernel_rfl))⟩
        · intro s0 s1 s2 s3 s4 s5 s6 s7 s8 s9 s10 s11 s12 s13 s14 s15 s16 s17 s18 s19 s20 s21 s22 s23 s24 s25 s26 s27 hc hi hp a w hS
          obtain rfl : s15 = false := hi
          obtain rfl : s14 = true := hp 14 (by kernel_rfl)
          obtain ⟨hF, hM⟩ := hS
          refine eP 59 (v0 := .int .u32 (IntKind.u32.wrap (br - 1))) (v := .int .u32 (br - 1)) hF (by kernel_rfl) (fun _ => by kernel_rfl) (vi (IntWalk.u32_in _ (by omega))) fun a hF => ?_
          exact ⟨((hF.repl 20 (by kernel_rfl)).cast (by kernel_rfl)), (hM.cast (by kernel_rfl))⟩
        · intro s0 s1 s2 s3 s4 s5 s6 s7 s8 s9 s10 s11 s12 s13 s14 s15 s16 s17 s18 s19 s20 s21 s22 s23 s24 s25 s26 s27 hc hi hp a w hS
          obtain rfl : s16 = false := hi
          obtain rfl : s17 = false := hc.f 17 16 (by kernel_rfl) rfl
          obtain rfl : s18 = false := hc.f 18 17 (by kernel_rfl) rfl
          obtain rfl : s21 = false := hc.f 21 16 (by kernel_rfl) rfl
          obtain rfl : s24 = false := hc.f 24 16 (by kernel_rfl) rfl
          obtain rfl : s27 = false := hc.f 27 16 (by kernel_rfl) rfl
          obtain ⟨hF, hM⟩ := hS
          refine eP 60 (v0 := .pointer (some ⟨bb1, 0, none⟩)) (v := .pointer (some ⟨bb1, 0, none⟩)) hF (by kernel_rfl) (fun _ => by kernel_rfl) rfl fun a hF => ?_
          exact ⟨((hF.repl 21 (by kernel_rfl)).cast (by kernel_rfl)), (hM.cast (by kernel_rfl))⟩
        · intro s0 s1 s2 s3 s4 s5 s6 s7 s8 s9 s10 s11 s12 s13 s14 s15 s16 s17 s18 s19 s20 s21 s22 s23 s24 s25 s26 s27 hc hi hp a w hS
          obtain rfl : s17 = false := hi
          obtain rfl : s16 = true := hp 16 (by kernel_rfl)
          obtain rfl : s18 = false := hc.f 18 17 (by kernel_rfl) rfl
          obtain rfl : s21 = false := hc.f 21 17 (by kernel_rfl) rfl
          obtain rfl : s24 = false := hc.f 24 17 (by kernel_rfl) rfl
          obtain rfl : s27 = false := hc.f 27 17 (by kernel_rfl) rfl
          obtain ⟨hF, hM⟩ := hS
          refine eP 61 (v0 := .pointer (some ⟨bb1, 0, none⟩)) (v := .pointer (some ⟨bb1, 0, none⟩)) hF (by kernel_rfl) (fun _ => by kernel_rfl) rfl fun a hF => ?_
          exact ⟨((hF.repl 22 (by kernel_rfl)).cast (by kernel_rfl)), (hM.cast (by kernel_rfl))⟩
        · intro s0 s1 s2 s3 s4 s5 s6 s7 s8 s9 s10 s11 s12 s13 s14 s15 s16 s17 s18 s19 s20 s21 s22 s23 s24 s25 s26 s27 hc hi hp a w hS
          obtain rfl : s18 = false := hi
          obtain rfl : s17 = true := hp 17 (by kernel_rfl)
          obtain rfl : s3 = true := hp 3 (by kernel_rfl)
          obtain rfl : s21 = false := hc.f 21 18 (by kernel_rfl) rfl
          obtain rfl : s24 = false := hc.f 24 18 (by kernel_rfl) rfl
          obtain rfl : s27 = false := hc.f 27 18 (by kernel_rfl) rfl
          obtain ⟨hF, hM⟩ := hS
          refine sStore (i := 6) (off := 0) (cs' := #[.int .u32 (ab - 1), .int .u32 raa, .slice Gaa gapsa.length cga, .slice Saa sizesa.length csa, .int .u32 bub, .int .u32 rab, .slice Gab gapsb.length cgb, .slice Sab sizesb.length csb]) hF hM (by kernel_rfl) rfl rfl (by kernel_rfl) (by kernel_rfl) rfl (by kernel_rfl) fun w hM => ?_
          exact ⟨(hF.cast (by kernel_rfl)), ((hM.repl 5 (by kernel_rfl)).cast (by kernel_rfl))⟩
        · intro s0 s1 s2 s3 s4 s5 s6 s7 s8 s9 s10 s11 s12 s13 s14 s15 s16 s17 s18 s19 s20 s21 s22 s23 s24 s25 s26 s27 hc hi hp a w hS
          obtain rfl : s19 = false := hi
          obtain rfl : s18 = true := hp 18 (by kernel_rfl)
          obtain rfl : s20 = false := hc.f 20 19 (by kernel_rfl) rfl
          obtain rfl : s21 = false := hc.f 21 20 (by kernel_rfl) rfl
          obtain rfl : s24 = false := hc.f 24 19 (by kernel_rfl) rfl
          obtain rfl : s27 = false := hc.f 27 19 (by kernel_rfl) rfl
          obtain ⟨hF, hM⟩ := hS
          refine eP 62 (v0 := .pointer (some ⟨bb1, 0, none⟩)) (v := .pointer (some ⟨bb1, 0, none⟩)) hF (by kernel_rfl) (fun _ => by kernel_rfl) rfl fun a hF => ?_
          exact ⟨((hF.repl 23 (by kernel_rfl)).cast (by kernel_rfl)), (hM.cast (by kernel_rfl))⟩
        · intro s0 s1 s2 s3 s4 s5 s6 s7 s8 s9 s10 s11 s12 s13 s14 s15 s16 s17 s18 s19 s20 s21 s22 s23 s24 s25 s26 s27 hc hi hp a w hS
          obtain rfl : s20 = false := hi
          obtain rfl : s19 = true := hp 19 (by kernel_rfl)
          obtain rfl : s18 = true := hp 18 (by kernel_rfl)
          obtain rfl : s21 = false := hc.f 21 20 (by kernel_rfl) rfl
          obtain rfl : s24 = false := hc.f 24 20 (by kernel_rfl) rfl
          obtain rfl : s27 = false := hc.f 27 20 (by kernel_rfl) rfl
          obtain ⟨hF, hM⟩ := hS
          refine eP 63 (v0 := .pointer (some ⟨bb1, 1, none⟩)) (v := .pointer (some ⟨bb1, 1, none⟩)) hF (by kernel_rfl) (fun _ => by kernel_rfl) rfl fun a hF => ?_
          exact ⟨((hF.repl 24 (by kernel_rfl)).cast (by kernel_rfl)), (hM.cast (by kernel_rfl))⟩
        · intro s0 s1 s2 s3 s4 s5 s6 s7 s8 s9 s10 s11 s12 s13 s14 s15 s16 s17 s18 s19 s20 s21 s22 s23 s24 s25 s26 s27 hc hi hp a w hS
          obtain rfl : s21 = false := hi
          obtain rfl : s20 = true := hp 20 (by kernel_rfl)
          obtain rfl : s18 = true := hp 18 (by kernel_rfl)
          obtain rfl : s7 = true := hp 7 (by kernel_rfl)
          obtain rfl : s24 = false := hc.f 24 21 (by kernel_rfl) rfl
          obtain rfl : s27 = false := hc.f 27 21 (by kernel_rfl) rfl
          obtain ⟨hF, hM⟩ := hS
          refine sStore (i := 6) (off := 1) (cs' := #[.int .u32 (ab - 1), .int .u32 (ar - 1), .slice Gaa gapsa.length cga, .slice Saa sizesa.length csa, .int .u32 bub, .int .u32 rab, .slice Gab gapsb.length cgb, .slice Sab sizesb.length csb]) hF hM (by kernel_rfl) rfl rfl (by kernel_rfl) (by kernel_rfl) rfl (by kernel_rfl) fun w hM => ?_
          exact ⟨(hF.cast (by kernel_rfl)), ((hM.repl 5 (by kernel_rfl)).cast (by kernel_rfl))⟩
        · intro s0 s1 s2 s3 s4 s5 s6 s7 s8 s9 s10 s11 s12 s13 s14 s15 s16 s17 s18 s19 s20 s21 s22 s23 s24 s25 s26 s27 hc hi hp a w hS
          obtain rfl : s22 = false := hi
          obtain rfl : s21 = true := hp 21 (by kernel_rfl)
          obtain rfl : s18 = true := hp 18 (by kernel_rfl)
          obtain rfl : s23 = false := hc.f 23 22 (by kernel_rfl) rfl
          obtain rfl : s24 = false := hc.f 24 23 (by kernel_rfl) rfl
          obtain rfl : s27 = false := hc.f 27 22 (by kernel_rfl) rfl
          obtain ⟨hF, hM⟩ := hS
          refine eP 64 (v0 := .pointer (some ⟨bb1, 4, none⟩)) (v := .pointer (some ⟨bb1, 4, none⟩)) hF (by kernel_rfl) (fun _ => by kernel_rfl) rfl fun a hF => ?_
          exact ⟨((hF.repl 25 (by kernel_rfl)).cast (by kernel_rfl)), (hM.cast (by kernel_rfl))⟩
        · intro s0 s1 s2 s3 s4 s5 s6 s7 s8 s9 s10 s11 s12 s13 s14 s15 s16 s17 s18 s19 s20 s21 s22 s23 s24 s25 s26 s27 hc hi hp a w hS
          obtain rfl : s23 = false := hi
          obtain rfl : s22 = true := hp 22 (by kernel_rfl)
          obtain rfl : s21 = true := hp 21 (by kernel_rfl)
          obtain rfl : s18 = true := hp 18 (by kernel_rfl)
          obtain rfl : s24 = false := hc.f 24 23 (by kernel_rfl) rfl
          obtain rfl : s27 = false := hc.f 27 23 (by kernel_rfl) rfl
          obtain ⟨hF, hM⟩ := hS
          refine eP 65 (v0 := .pointer (some ⟨bb1, 4, none⟩)) (v := .pointer (some ⟨bb1, 4, none⟩)) hF (by kernel_rfl) (fun _ => by kernel_rfl) rfl fun a hF => ?_
          exact ⟨((hF.repl 26 (by kernel_rfl)).cast (by kernel_rfl)), (hM.cast (by kernel_rfl))⟩
        · intro s0 s1 s2 s3 s4 s5 s6 s7 s8 s9 s10 s11 s12 s13 s14 s15 s16 s17 s18 s19 s20 s21 s22 s23 s24 s25 s26 s27 hc hi hp a w hS
          obtain rfl : s24 = false := hi
          obtain rfl : s23 = true := hp 23 (by kernel_rfl)
          obtain rfl : s21 = true := hp 21 (by kernel_rfl)
          obtain rfl : s18 = true := hp 18 (by kernel_rfl)
          obtain rfl : s11 = true := hp 11 (by kernel_rfl)
          obtain rfl : s27 = false := hc.f 27 24 (by kernel_rfl) rfl
          obtain ⟨hF, hM⟩ := hS
          refine sStore (i := 6) (off := 4) (cs' := #[.int .u32 (ab - 1), .int .u32 (ar - 1), .slice Gaa gapsa.length cga, .slice Saa sizesa.length csa, .int .u32 (bb_ - 1), .int .u32 rab, .slice Gab gapsb.length cgb, .slice Sab sizesb.length csb]) hF hM (by kernel_rfl) rfl rfl (by kernel_rfl) (by kernel_rfl) rfl (by kernel_rfl) fun w hM => ?_
          exact ⟨(hF.cast (by kernel_rfl)), ((hM.repl 5 (by kernel_rfl)).cast (by kernel_rfl))⟩
        · intro s0 s1 s2 s3 s4 s5 s6 s7 s8 s9 s10 s11 s12 s13 s14 s15 s16 s17 s18 s19 s20 s21 s22 s23 s24 s25 s26 s27 hc hi hp a w hS
          obtain rfl : s25 = false := hi
          obtain rfl : s24 = true := hp 24 (by kernel_rfl)
          obtain rfl : s21 = true := hp 21 (by kernel_rfl)
          obtain rfl : s18 = true := hp 18 (by kernel_rfl)
          obtain rfl : s26 = false := hc.f 26 25 (by kernel_rfl) rfl
          obtain rfl : s27 = false := hc.f 27 26 (by kernel_rfl) rfl
          obtain ⟨hF, hM⟩ := hS
          refine eP 66 (v0 := .pointer (some ⟨bb1, 4, none⟩)) (v := .pointer (some ⟨bb1, 4, none⟩)) hF (by kernel_rfl) (fun _ => by kernel_rfl) rfl fun a hF => ?_
          exact ⟨((hF.repl 27 (by kernel_rfl)).cast (by kernel_rfl)), (hM.cast (by kernel_rfl))⟩
        · intro s0 s1 s2 s3 s4 s5 s6 s7 s8 s9 s10 s11 s12 s13 s14 s15 s16 s17 s18 s19 s20 s21 s22 s23 s24 s25 s26 s27 hc hi hp a w hS
          obtain rfl : s26 = false := hi
          obtain rfl : s25 = true := hp 25 (by kernel_rfl)
          obtain rfl : s24 = true := hp 24 (by kernel_rfl)
          obtain rfl : s21 = true := hp 21 (by kernel_rfl)
          obtain rfl : s18 = true := hp 18 (by kernel_rfl)
          obtain rfl : s27 = false := hc.f 27 26 (by kernel_rfl) rfl
          obtain ⟨hF, hM⟩ := hS
          refine eP 67 (v0 := .pointer (some ⟨bb1, 5, none⟩)) (v := .pointer (some ⟨bb1, 5, none⟩)) hF (by kernel_rfl) (fun _ => by kernel_rfl) rfl fun a hF => ?_
          exact ⟨((hF.repl 28 (by kernel_rfl)).cast (by kernel_rfl)), (hM.cast (by kernel_rfl))⟩
        · intro s0 s1 s2 s3 s4 s5 s6 s7 s8 s9 s10 s11 s12 s13 s14 s15 s16 s17 s18 s19 s20 s21 s22 s23 s24 s25 s26 s27 hc hi hp a w hS
          obtain rfl : s27 = false := hi
          obtain rfl : s26 = true := hp 26 (by kernel_rfl)
          obtain rfl : s24 = true := hp 24 (by kernel_rfl)
          obtain rfl : s21 = true := hp 21 (by kernel_rfl)
          obtain rfl : s18 = true := hp 18 (by kernel_rfl)
          obtain rfl : s15 = true := hp 15 (by kernel_rfl)
          obtain ⟨hF, hM⟩ := hS
          refine sStore (i := 6) (off := 5) (cs' := #[.int .u32 (ab - 1), .int .u32 (ar - 1), .slice Gaa gapsa.length cga, .slice Saa sizesa.length csa, .int .u32 (bb_ - 1), .int .u32 (br - 1), .slice Gab gapsb.length cgb, .slice Sab sizesb.length csb]) hF hM (by kernel_rfl) rfl rfl (by kernel_rfl) (by kernel_rfl) rfl (by kernel_rfl) fun w hM => ?_
          exact ⟨(hF.cast (by kernel_rfl)), ((hM.repl 5 (by kernel_rfl)).cast (by kernel_rfl))⟩
      · intro a w hS
        obtain ⟨hF, hM⟩ := hS
        replace hF : Fr 180 [(1, some (.slice Ka kl.length ck)), (2, some (.pointer (some ⟨bb1, 0, none⟩))), (4, some (.bool false)), (5, some (.pointer (some ⟨bb2, 0, none⟩))), (6, some (.pointer (some ⟨bb3, 0, none⟩))), (44, some (.pointer (some ⟨bb2, 0, none⟩))), (45, some (.int .i64 ab)), (46, some (.int .i64 (ab - 1))), (47, some (.int .u32 (ab - 1))), (48, some (.pointer (some ⟨bb2, 1, none⟩))), (49, some (.int .i64 ar)), (50, some (.int .i64 (ar - 1))), (51, some (.int .u32 (ar - 1))), (52, some (.pointer (some ⟨bb3, 0, none⟩))), (53, some (.int .i64 bb_)), (54, some (.int .i64 (bb_ - 1))), (55, some (.int .u32 (bb_ - 1))), (56, some (.pointer (some ⟨bb3, 1, none⟩))), (57, some (.int .i64 br)), (58, some (.int .i64 (br - 1))), (59, some (.int .u32 (br - 1))), (60, some (.pointer (some ⟨bb1, 0, none⟩))), (61, some (.pointer (some ⟨bb1, 0, none⟩))), (62, some (.pointer (some ⟨bb1, 0, none⟩))), (63, some (.pointer (some ⟨bb1, 1, none⟩))), (64, some (.pointer (some ⟨bb1, 4, none⟩))), (65, some (.pointer (some ⟨bb1, 4, none⟩))), (66, some (.pointer (some ⟨bb1, 4, none⟩))), (67, some (.pointer (some ⟨bb1, 5, none⟩)))] a := hF.cast (by kernel_rfl)
        replace hM : Mem w0.heap.size w0 [(1, some (.ro Gaa (gapsa.map (Value.int .u16)))), (2, some (.ro Saa (sizesa.map (Value.int .u16)))), (3, some (.ro Gab (gapsb.map (Value.int .u16)))), (4, some (.ro Sab (sizesb.map (Value.int .u16)))), (5, some (.ro Ka (kl.map Value.bool))), (6, some (.row bb1 63 #[.int .u32 (ab - 1), .int .u32 (ar - 1), .slice Gaa gapsa.length cga, .slice Saa sizesa.length csa, .int .u32 (bb_ - 1), .int .u32 (br - 1), .slice Gab gapsb.length cgb, .slice Sab sizesb.length csb])), (7, some (.row bb2 23 #[.int .i64 ab, .int .i64 ar])), (8, some (.row bb3 23 #[.int .i64 bb_, .int .i64 br]))] w := hM.cast (by kernel_rfl)
        refine hK6 _ _ ?_
        refine wp_seq_k fun K7 hK7 => ?_
        refine rF (by kernel_rfl) (by kernel_rfl) (fun S a w => ∃ AA4 : Option Addr, ∃ cc4 : Nat, ∃ AA5 : Option Addr, ∃ cc5 : Nat, Fr 180 [(1, some (.slice Ka kl.length ck)), (2, some (.pointer (some ⟨bb1, 0, none⟩))), (4, some (.bool false)), (5, some (.pointer (some ⟨bb2, 0, none⟩))), (6, some (.pointer (some ⟨bb3, 0, none⟩))), (7, (cond (S.getD 6 false) (some (.slice AA4 la.length cc4)) none)), (8, (cond (S.getD 7 false) (some (.slice AA5 lb.length cc5)) none)), (68, (cond (S.getD 0 false) (some (.pointer (some ⟨bb1, 0, none⟩))) none)), (69, (cond (S.getD 1 false) (some (.agg #[.int .u32 (ab - 1), .int .u32 (ar - 1), .slice Gaa gapsa.length cga, .slice Saa sizesa.length csa])) none)), (70, (cond (S.getD 2 false) (some (.slice AA4 la.length cc4)) none)), (71, (cond (S.getD 3 false) (some (.pointer (some ⟨bb1, 4, none⟩))) none)), (72, (cond (S.getD 4 false) (some (.agg #[.int .u32 (bb_ - 1), .int .u32 (br - 1), .slice Gab gapsb.length cgb, .slice Sab sizesb.length csb])) none)), (73, (cond (S.getD 5 false) (some (.slice AA5 lb.length cc5)) none))] a ∧ Mem w0.heap.size w0 [(1, some (.ro Gaa (gapsa.map (Value.int .u16)))), (2, some (.ro Saa (sizesa.map (Value.int .u16)))), (3, some (.ro Gab (gapsb.map (Value.int .u16)))), (4, some (.ro Sab (sizesb.map (Value.int .u16)))), (5, some (.ro Ka (kl.map Value.bool))), (6, some (.row bb1 63 #[.int .u32 (ab - 1), .int .u32 (ar - 1), .slice Gaa gapsa.length cga, .slice Saa sizesa.length csa, .int .u32 (bb_ - 1), .int .u32 (br - 1), .slice Gab gapsb.length cgb, .slice Sab sizesb.length csb])), (7, some (.row bb2 23 #[.int .i64 ab, .int .i64 ar])), (8, some (.row bb3 23 #[.int .i64 bb_, .int .i64 br])), (9, (cond (S.getD 2 false) (some (.own (.slice AA4 la.length cc4) 30 2 la.length (flat2 la))) none)), (10, (cond (S.getD 5 false) (some (.own (.slice AA5 lb.length cc5) 30 2 lb.length (flat2 lb))) none))] w) ?_ ?_ ?_
        · exact ⟨none, 0, none, 0, ((((((((((((((Fr.nil hF).co hF (i := 73) (by kernel_rfl)).co hF (i := 72) (by kernel_rfl)).co hF (i := 71) (by kernel_rfl)).co hF (i := 70) (by kernel_rfl)).co hF (i := 69) (by kernel_rfl)).co hF (i := 68) (by kernel_rfl)).co hF (i := 8) (by kernel_rfl)).co hF (i := 7) (by kernel_rfl)).co hF (i := 6) (by kernel_rfl)).co hF (i := 5) (by kernel_rfl)).co hF (i := 4) (by kernel_rfl)).co hF (i := 2) (by kernel_rfl)).co hF (i := 1) (by kernel_rfl)), hM.drew.sub ((((((((((Sub.nil.co (k := 10) (by kernel_rfl)).co (k := 9) (by kernel_rfl)).co (k := 8) (by kernel_rfl)).co (k := 7) (by kernel_rfl)).co (k := 6) (by kernel_rfl)).co (k := 5) (by kernel_rfl)).co (k := 4) (by kernel_rfl)).co (k := 3) (by kernel_rfl)).co (k := 2) (by kernel_rfl)).co (k := 1) (by kernel_rfl))⟩
        · refine stC ?_ (stC ?_ (stC ?_ (stC ?_ (stC ?_ (stC ?_ (stC ?_ (stC ?_ (trivial))))))))
          · intro s0 s1 s2 s3 s4 s5 s6 s7 hc hi hp a w hS
            obtain rfl : s0 = false := hi
            obtain ⟨AA4, cc4, AA5, cc5, hF, hM⟩ := hS
            refine eP 68 (v0 := .pointer (some ⟨bb1, 0, none⟩)) (v := .pointer (some ⟨bb1, 0, none⟩)) hF (by kernel_rfl) (fun _ => by kernel_rfl) rfl fun a hF => ?_
            exact ⟨AA4, cc4, AA5, cc5, ((hF.repl 7 (by kernel_rfl)).cast (by kernel_rfl)), (hM.cast (by kernel_rfl))⟩
          · intro s0 s1 s2 s3 s4 s5 s6 s7 hc hi hp a w hS
            obtain rfl : s1 = false := hi
            obtain rfl : s0 = true := hp 0 (by kernel_rfl)
            obtain ⟨AA4, cc4, AA5, cc5, hF, hM⟩ := hS
            refine eL 69 6 0 (v := .agg #[.int .u32 (ab - 1), .int .u32 (ar - 1), .slice Gaa gapsa.length cga, .slice Saa sizesa.length csa]) hF hM (by kernel_rfl) rfl rfl (by kernel_rfl) (by kernel_rfl) fun a w hF hM => ?_
            exact ⟨AA4, cc4, AA5, cc5, ((hF.repl 8 (by kernel_rfl)).cast (by kernel_rfl)), (hM.cast (by kernel_rfl))⟩
          · intro s0 s1 s2 s3 s4 s5 s6 s7 hc hi hp a w hS
            obtain rfl : s2 = false := hi
            obtain rfl : s1 = true := hp 1 (by kernel_rfl)
            obtain rfl : s6 = false := hc.f 6 2 (by kernel_rfl) rfl
            obtain ⟨AA4, cc4, AA5, cc5, hF, hM⟩ := hS
            refine sOwn 9 (f := 22) (args := #[.agg #[.int .u32 (ab - 1), .int .u32 (ar - 1), .slice Gaa gapsa.length cga, .slice Saa sizesa.length csa]]) (mk := fun v => v) (e := 30) (size := 2) (m := la.length) (xs := (flat2 la)) hF hM (by kernel_rfl) rfl (by decide) (by kernel_rfl) (fun _ => by kernel_rfl) (by rw [← hla]; exact conforming_w (ab - 1) (ar - 1) Gaa gapsa cga Saa sizesa csa w (hM.ok 1 _ rfl) (hM.ok 2 _ rfl) hga hsa (by omega) (by omega) (by omega)) fun AA4 cc4 a w hF hM => ?_
            exact ⟨AA4, cc4, AA5, cc5, ((hF.repl 9 (by kernel_rfl)).cast (by kernel_rfl)), ((hM.repl 8 (by kernel_rfl)).cast (by kernel_rfl))⟩
          · intro s0 s1 s2 s3 s4 s5 s6 s7 hc hi hp a w hS
            obtain rfl : s3 = false := hi
            obtain ⟨AA4, cc4, AA5, cc5, hF, hM⟩ := hS
            refine eP 71 (v0 := .pointer (some ⟨bb1, 4, none⟩)) (v := .pointer (some ⟨bb1, 4, none⟩)) hF (by kernel_rfl) (fun _ => by kernel_rfl) rfl fun a hF => ?_
            exact ⟨AA4, cc4, AA5, cc5, ((hF.repl 10 (by kernel_rfl)).cast (by kernel_rfl)), (hM.cast (by kernel_rfl))⟩
          · intro s0 s1 s2 s3 s4 s5 s6 s7 hc hi hp a w hS
            obtain rfl : s4 = false := hi
            obtain rfl : s3 = true := hp 3 (by kernel_rfl)
            obtain ⟨AA4, cc4, AA5, cc5, hF, hM⟩ := hS
            refine eL 72 6 4 (v := .agg #[.int .u32 (bb_ - 1), .int .u32 (br - 1), .slice Gab gapsb.length cgb, .slice Sab sizesb.length csb]) hF hM (by kernel_rfl) rfl rfl (by kernel_rfl) (by kernel_rfl) fun a w hF hM => ?_
            exact ⟨AA4, cc4, AA5, cc5, ((hF.repl 11 (by kernel_rfl)).cast (by kernel_rfl)), (hM.cast (by kernel_rfl))⟩
          · intro s0 s1 s2 s3 s4 s5 s6 s7 hc hi hp a w hS
            obtain rfl : s5 = false := hi
            obtain rfl : s4 = true := hp 4 (by kernel_rfl)
            obtain rfl : s7 = false := hc.f 7 5 (by kernel_rfl) rfl
            obtain ⟨AA4, cc4, AA5, cc5, hF, hM⟩ := hS
            refine sOwn 10 (f := 22) (args := #[.agg #[.int .u32 (bb_ - 1), .int .u32 (br - 1), .slice Gab gapsb.length cgb, .slice Sab sizesb.length csb]]) (mk := fun v => v) (e := 30) (size := 2) (m := lb.length) (xs := (flat2 lb)) hF hM (by kernel_rfl) rfl (by decide) (by kernel_rfl) (fun _ => by kernel_rfl) (by rw [← hlb]; exact conforming_w (bb_ - 1) (br - 1) Gab gapsb cgb Sab sizesb csb w (hM.ok 3 _ rfl) (hM.ok 4 _ rfl) hgb hsb (by omega) (by omega) (by omega)) fun AA5 cc5 a w hF hM => ?_
            exact ⟨AA4, cc4, AA5, cc5, ((hF.repl 12 (by kernel_rfl)).cast (by kernel_rfl)), ((hM.repl 9 (by kernel_rfl)).cast (by kernel_rfl))⟩
          · intro s0 s1 s2 s3 s4 s5 s6 s7 hc hi hp a w hS
            obtain rfl : s6 = false := hi
            obtain rfl : s2 = true := hp 2 (by kernel_rfl)
            obtain ⟨AA4, cc4, AA5, cc5, hF, hM⟩ := hS
            refine eP 7 (v0 := .slice AA4 la.length cc4) (v := .slice AA4 la.length cc4) hF (by kernel_rfl) (fun _ => by kernel_rfl) rfl fun a hF => ?_
            exact ⟨AA4, cc4, AA5, cc5, ((hF.repl 5 (by kernel_rfl)).cast (by kernel_rfl)), (hM.cast (by kernel_rfl))⟩
          · intro s0 s1 s2 s3 s4 s5 s6 s7 hc hi hp a w hS
            obtain rfl : s7 = false := hi
            obtain rfl : s5 = true := hp 5 (by kernel_rfl)
            obtain ⟨AA4, cc4, AA5, cc5, hF, hM⟩ := hS
            refine eP 8 (v0 := .slice AA5 lb.length cc5) (v := .slice AA5 lb.length cc5) hF (by kernel_rfl) (fun _ => by kernel_rfl) rfl fun a hF => ?_
            exact ⟨AA4, cc4, AA5, cc5, ((hF.repl 6 (by kernel_rfl)).cast (by kernel_rfl)), (hM.cast (by kernel_rfl))⟩
        · intro a w hS
          obtain ⟨AA4, cc4, AA5, cc5, hF, hM⟩ := hS
          replace hF : Fr 180 [(1, some (.slice Ka kl.length ck)), (2, some (.pointer (some ⟨bb1, 0, none⟩))), (4, some (.bool false)), (5, some (.pointer (some ⟨bb2, 0, none⟩))), (6, some (.pointer (some ⟨bb3, 0, none⟩))), (7, some (.slice AA4 la.length cc4)), (8, some (.slice AA5 lb.length cc5)), (68, some (.pointer (some ⟨bb1, 0, none⟩))), (69, some (.agg #[.int .u32 (ab - 1), .int .u32 (ar - 1), .slice Gaa gapsa.length cga, .slice Saa sizesa.length csa])), (70, some (.slice AA4 la.length cc4)), (71, some (.pointer (some ⟨bb1, 4, none⟩))), (72, some (.agg #[.int .u32 (bb_ - 1), .int .u32 (br - 1), .slice Gab gapsb.length cgb, .slice Sab sizesb.length csb])), (73, some (.slice AA5 lb.length cc5))] a := hF.cast (by kernel_rfl)
          replace hM : Mem w0.heap.size w0 [(1, some (.ro Gaa (gapsa.map (Value.int .u16)))), (2, some (.ro Saa (sizesa.map (Value.int .u16)))), (3, some (.ro Gab (gapsb.map (Value.int .u16)))), (4, some (.ro Sab (sizesb.map (Value.int .u16)))), (5, some (.ro Ka (kl.map Value.bool))), (6, some (.row bb1 63 #[.int .u32 (ab - 1), .int .u32 (ar - 1), .slice Gaa gapsa.length cga, .slice Saa sizesa.length csa, .int .u32 (bb_ - 1), .int .u32 (br - 1), .slice Gab gapsb.length cgb, .slice Sab sizesb.length csb])), (7, some (.row bb2 23 #[.int .i64 ab, .int .i64 ar])), (8, some (.row bb3 23 #[.int .i64 bb_, .int .i64 br])), (9, some (.own (.slice AA4 la.length cc4) 30 2 la.length (flat2 la))), (10, some (.own (.slice AA5 lb.length cc5) 30 2 lb.length (flat2 lb)))] w := hM.cast (by kernel_rfl)
          refine hK7 _ _ ?_
          refine wp_seq_k fun K8 hK8 => ?_
          refine wp_region_lit ?_
          refine sB 2 [(9, .slice none 0 0), (10, .slice none 0 0)] hF (by kernel_rfl) fun a hF => ?_
          refine wpList_nil ?_
          refine hK8 _ _ ?_
          refine wp_seq_k fun K9 hK9 => ?_
          refine wp_seq_k fun K10 hK10 => ?_
          refine wp_region_lit ?_
          refine sB 2 [(11, .int .i64 0), (12, .int .i64 0)] hF (by kernel_rfl) fun a hF => ?_
          refine wpList_nil ?_
          refine hK10 _ _ ?_
          refine wp_block ?_
          replace hM := hM.addNil 11 30 2
          refine wp_loop_k (G := Nat × Nat × List (Int × Int) × Nat × Option Addr × Nat) (fun gg a w => Fr 180 [(9, some (.slice gg.2.2.2.2.1 gg.2.2.2.1 gg.2.2.2.2.2)), (11, some (.int .i64 (gg.1 : Int))), (12, some (.int .i64 (gg.2.1 : Int))), (1, some (.slice Ka kl.length ck)), (4, some (.bool false)), (5, some (.pointer (some ⟨bb2, 0, none⟩))), (6, some (.pointer (some ⟨bb3, 0, none⟩))), (7, some (.slice AA4 la.length cc4)), (8, some (.slice AA5 lb.length cc5)), (10, some (.slice none 0 0))] a ∧ Mem w0.heap.size w0 [(1, some (.ro Gaa (gapsa.map (Value.int .u16)))), (2, some (.ro Saa (sizesa.map (Value.int .u16)))), (3, some (.ro Gab (gapsb.map (Value.int .u16)))), (4, some (.ro Sab (sizesb.map (Value.int .u16)))), (5, some (.ro Ka (kl.map Value.bool))), (7, some (.row bb2 23 #[.int .i64 ab, .int .i64 ar])), (8, some (.row bb3 23 #[.int .i64 bb_, .int .i64 br])), (9, some (.own (.slice AA4 la.length cc4) 30 2 la.length (flat2 la))), (10, some (.own (.slice AA5 lb.length cc5) 30 2 lb.length (flat2 lb))), (11, some (.own (.slice gg.2.2.2.2.1 gg.2.2.2.1 gg.2.2.2.2.2) 30 2 gg.2.2.2.1 (flat2 gg.2.2.1)))] w ∧ ((gg.1 : Int) ≤ (la.length : Int)) ∧ ((gg.2.1 : Int) ≤ (lb.length : Int)) ∧ ((gg.2.2.2.1 : Int) = (gg.1 : Int) + (gg.2.1 : Int)) ∧ ((gg.2.2.1.length : Int) = (gg.2.2.2.1 : Int)) ∧ (bkE (ab + bb_) (ar + br) = 0 → Mg ab ar bb_ br la lb gg.2.2.1 gg.1 gg.2.1)) (fun gg => la.length + lb.length - (gg.1 + gg.2.1)) (0, 0, [], 0, none, 0) ?_ ?_
          · refine ⟨(((((((((((Fr.nil hF).c hF (i := 10) rfl rfl).c hF (i := 8) rfl rfl).c hF (i := 7) rfl rfl).c hF (i := 6) rfl rfl).c hF (i := 5) rfl rfl).c hF (i := 4) rfl rfl).c hF (i := 1) rfl rfl).c hF (i := 12) rfl (vi (show (0 : Int) = (0 : Int) from by omega))).c hF (i := 11) rfl (vi (show (0 : Int) = (0 : Int) from by omega))).c hF (i := 9) rfl rfl), (hM.sub ((((((((((Sub.nil.c (k := 11) rfl rfl).c (k := 10) rfl rfl).c (k := 9) rfl rfl).c (k := 8) rfl rfl).c (k := 7) rfl rfl).c (k := 5) rfl rfl).c (k := 4) rfl rfl).c (k := 3) rfl rfl).c (k := 2) rfl rfl).c (k := 1) rfl rfl)), (show (0 : Int) ≤ (la.length : Int) from by omega), (show (0 : Int) ≤ (lb.length : Int) from by omega), (show (0 : Int) = (0 : Int) + (0 : Int) from by omega), (show (([]).length : Int) = (0 : Int) from by rfl), (show bkE (ab + bb_) (ar + br) = 0 → Mg ab ar bb_ br la lb ([]) 0 0 from by exact fun hs => Mg.zero cfa cfb hab2 hbb2 hs)⟩
          · intro gg a w hI
            intro K11 hK11
            obtain ⟨i, j, oo, on, G1, c1⟩ := gg
            try dsimp only at hI hK11
            obtain ⟨hF, hM, hz1, hz2, hz3, hz4, hz5⟩ := hI
            have hMg : bkE (ab + bb_) (ar + br) = 0 → Mg ab ar bb_ br la lb oo i j := by assumption
            refine wp_seq_k fun K12 hK12 => ?_
            refine wp_seq_k fun K13 hK13 => ?_
            by_cases hz6 : (i : Int) < (la.length : Int)
            · skip
              refine wp_region_lit ?_
              refine sB 3 [(74, .int .i64 (i : Int)), (75, .slice AA4 la.length cc4), (76, .int .i64 (la.length : Int))] hF (by kernel_rfl) fun a hF => ?_
              refine wl (eP 77 (v0 := .bool (decide ((i : Int) < (la.length : Int)))) (v := .bool true) hF (by kernel_rfl) (fun _ => by kernel_rfl) (bT hz6) fun a hF => ?_)
              refine sB 6 [(78, .bool true), (79, undef), (80, undef), (81, undef), (82, undef), (83, .bool true)] hF (by kernel_rfl) fun a hF => ?_
              refine wpList_nil ?_
              refine hK13 _ _ ?_
              refine cT hF (by kernel_rfl) (by kernel_rfl) ?_
              refine wp_skip ?_
              refine hK12 _ _ ?_
              refine wp_block ?_
              refine wp_seq_k fun K14 hK14 => ?_
              by_cases hz7 : (j : Int) = (lb.length : Int)
              · skip
                refine rQ hM (by kernel_rfl) (by kernel_rfl) ?_
                refine eQ 84 (v0 := .int .i64 (j : Int)) (v := .int .i64 (j : Int)) hF (by kernel_rfl) (fun _ => by kernel_rfl) rfl fun a hF => ?_
                refine eQ 85 (v0 := .slice AA5 lb.length cc5) (v := .slice AA5 lb.length cc5) hF (by kernel_rfl) (fun _ => by kernel_rfl) rfl fun a hF => ?_
                refine eQ 86 (v0 := .int .i64 (lb.length : Int)) (v := .int .i64 (lb.length : Int)) hF (by kernel_rfl) (fun _ => by kernel_rfl) rfl fun a hF => ?_
                refine eQ 87 (v0 := .bool (decide ((j : Int) = (lb.length : Int)))) (v := .bool true) hF (by kernel_rfl) (fun _ => by kernel_rfl) (bT hz7) fun a hF => ?_
                refine eQ 88 (v0 := .bool true) (v := .bool true) hF (by kernel_rfl) (fun _ => by kernel_rfl) rfl fun a hF => ?_
                refine qSkip hF (by kernel_rfl) rfl (by decide) fun a hF => ?_
                refine qSkip hF (by kernel_rfl) rfl (by decide) fun a hF => ?_
                refine qSkip hF (by kernel_rfl) rfl (by decide) fun a hF => ?_
                refine qSkip hF (by kernel_rfl) rfl (by decide) fun a hF => ?_
                refine qSkip hF (by kernel_rfl) rfl (by decide) fun a hF => ?_
                refine qSkip hF (by kernel_rfl) rfl (by decide) fun a hF => ?_
                refine qSkip hF (by kernel_rfl) rfl (by decide) fun a hF => ?_
                refine qSkip hF (by kernel_rfl) rfl (by decide) fun a hF => ?_
                refine qSkip hF (by kernel_rfl) rfl (by decide) fun a hF => ?_
                refine qSkip hF (by kernel_rfl) rfl (by decide) fun a hF => ?_
                refine qSkip hF (by kernel_rfl) rfl (by decide) fun a hF => ?_
                refine qSkip hF (by kernel_rfl) rfl (by decide) fun a hF => ?_
                refine qSkip hF (by kernel_rfl) rfl (by decide) fun a hF => ?_
                refine qSkip hF (by kernel_rfl) rfl (by decide) fun a hF => ?_
                refine qSkip hF (by kernel_rfl) rfl (by decide) fun a hF => ?_
                refine qSkip hF (by kernel_rfl) rfl (by decide) fun a hF => ?_
                refine qSkip hF (by kernel_rfl) rfl (by decide) fun a hF => ?_
                refine eQ 106 (v0 := .bool true) (v := .bool true) hF (by kernel_rfl) (fun _ => by kernel_rfl) rfl fun a hF => ?_
                refine wpQuiet_nil ?_
                intro w hM
                refine hK14 _ _ ?_
                refine cT hF (by kernel_rfl) (by kernel_rfl) ?_
                refine wp_seq_k fun K15 hK15 => ?_
                refine wp_region_lit ?_
                refine sB 3 [(107, .slice G1 on c1), (108, .slice AA4 la.length cc4), (109, .int .i64 (i : Int))] hF (by kernel_rfl) fun a hF => ?_
                refine wl (eM 110 (v := .pointer (some (ea AA4 (i * 2)))) hF hM (by kernel_rfl) (yld_ix (kd := .i64) (e := 30) (len := la.length) (cap := cc4) (i := (i : Int)) (size := 2) (A := AA4) hF rfl (by kernel_rfl) (by kernel_rfl) (by kernel_rfl) (by kernel_rfl) (by kernel_rfl) (roO 9 rfl) (by omega) (by omega) (by rw [flat2_length]; omega)) fun a w hF hM => ?_)
                refine wl (eM 111 (v := .agg #[.int .i64 (pr la i).1, .int .i64 (pr la i).2]) hF hM (by kernel_rfl) (yld_roM (A := AA4) (j := i * 2) (us := [.int .i64 (pr la i).1, .int .i64 (pr la i).2]) hF rfl (by kernel_rfl) (by kernel_rfl) (roO 9 rfl) (by kernel_rfl) rfl (pr_both (k := i) (by omega) (by omega))) fun a w hF hM => ?_)
                refine wl (eN 112 12 (t := 30) (fun b => .slice (some ⟨b, 0, none⟩) 1 1) #[.int .i64 (pr la i).1, .int .i64 (pr la i).2] hF hM (by kernel_rfl) (fun _ => by kernel_rfl) fun bb6 a w hF hM => ?_)
                refine wl (sApp 113 11 (e := 30) (size := 2) (bytes := 16) (z := .agg #[.int .i64 0, .int .i64 0]) (m := 1) (c := 1) (l := on) (cap := c1) (A := G1) (news := [.int .i64 (pr la i).1, .int .i64 (pr la i).2]) (flat2 (oo ++ [((pr la i).1, (pr la i).2)])) hF hM (by kernel_rfl) rfl (by kernel_rfl) (by kernel_rfl) (by kernel_rfl) rfl rfl rfl rfl (roR 12 rfl) (by simp [Value.oneCell']) (by omega) (by decide) (flat2_snoc' _ _ _) fun AA7 cc7 a w hF hM => ?_)
                refine sB 1 [(9, .slice AA7 (on + 1) cc7)] hF (by kernel_rfl) fun a hF => ?_
                refine wpList_nil ?_
                refine hK15 _ _ ?_
                refine wp_region_lit ?_
                refine sB 1 [(114, .int .i64 (i : Int))] hF (by kernel_rfl) fun a hF => ?_
                refine wl (eP 115 (v0 := .int .i64 (IntKind.i64.wrap ((i : Int) + 1))) (v := .int .i64 ((i : Int) + 1)) hF (by kernel_rfl) (fun _ => by kernel_rfl) (wi (by omega)) fun a hF => ?_)
                refine sB 1 [(11, .int .i64 ((i : Int) + 1))] hF (by kernel_rfl) fun a hF => ?_
                refine wpList_nil ?_
                refine hK11 _ _ ⟨(i + 1, j, oo ++ [((pr la i).1, (pr la i).2)], on + 1, AA7, cc7), ⟨(((((((((((Fr.nil hF).c hF (i := 10) rfl rfl).c hF (i := 8) rfl rfl).c hF (i := 7) rfl rfl).c hF (i := 6) rfl rfl).c hF (i := 5) rfl rfl).c hF (i := 4) rfl rfl).c hF (i := 1) rfl rfl).c hF (i := 12) rfl rfl).c hF (i := 11) rfl (vi (show ((i : Int) + 1 : Int) = ((i + 1) : Int) from by omega))).c hF (i := 9) rfl rfl), (hM.sub ((((((((((Sub.nil.c (k := 11) rfl rfl).c (k := 10) rfl rfl).c (k := 9) rfl rfl).c (k := 8) rfl rfl).c (k := 7) rfl rfl).c (k := 5) rfl rfl).c (k := 4) rfl rfl).c (k := 3) rfl rfl).c (k := 2) rfl rfl).c (k := 1) rfl rfl)), (show ((i + 1) : Int) ≤ (la.length : Int) from by omega), (show (j : Int) ≤ (lb.length : Int) from by omega), (show ((on + 1) : Int) = ((i + 1) : Int) + (j : Int) from by omega), (show ((oo ++ [((pr la i).1, (pr la i).2)]).length : Int) = ((on + 1) : Int) from by first | omega | (simp; omega)), (show bkE (ab + bb_) (ar + br) = 0 → Mg ab ar bb_ br la lb (oo ++ [((pr la i).1, (pr la i).2)]) (i + 1) j from by exact fun hs => (hMg hs).left cfa (by omega) (by omega) (by omega) (fun q => by omega))⟩, (show la.length + lb.length - ((i + 1) + j) < la.length + lb.length - (i + j) from by omega)⟩
              · skip
                refine rQ hM (by kernel_rfl) (by kernel_rfl) ?_
                refine eQ 84 (v0 := .int .i64 (j : Int)) (v := .int .i64 (j : Int)) hF (by kernel_rfl) (fun _ => by kernel_rfl) rfl fun a hF => ?_
                refine eQ 85 (v0 := .slice AA5 lb.length cc5) (v := .slice AA5 lb.length cc5) hF (by kernel_rfl) (fun _ => by kernel_rfl) rfl fun a hF => ?_
                refine eQ 86 (v0 := .int .i64 (lb.length : Int)) (v := .int .i64 (lb.length : Int)) hF (by kernel_rfl) (fun _ => by kernel_rfl) rfl fun a hF => ?_
                refine eQ 87 (v0 := .bool (decide ((j : Int) = (lb.length : Int)))) (v := .bool false) hF (by kernel_rfl) (fun _ => by kernel_rfl) (bF hz7) fun a hF => ?_
                refine eQ 88 (v0 := .bool false) (v := .bool false) hF (by kernel_rfl) (fun _ => by kernel_rfl) rfl fun a hF => ?_
                refine eQ 89 (v0 := .int .i64 (i : Int)) (v := .int .i64 (i : Int)) hF (by kernel_rfl) (fun _ => by kernel_rfl) rfl fun a hF => ?_
                refine eQ 90 (v0 := .slice AA4 la.length cc4) (v := .slice AA4 la.length cc4) hF (by kernel_rfl) (fun _ => by kernel_rfl) rfl fun a hF => ?_
                refine eQ 91 (v0 := .int .i64 (la.length : Int)) (v := .int .i64 (la.length : Int)) hF (by kernel_rfl) (fun _ => by kernel_rfl) rfl fun a hF => ?_
                refine eQ 92 (v0 := .bool (decide ((i : Int) < (la.length : Int)))) (v := .bool true) hF (by kernel_rfl) (fun _ => by kernel_rfl) (bT hz6) fun a hF => ?_
                refine eQ 93 (v0 := .bool true) (v := .bool true) hF (by kernel_rfl) (fun _ => by kernel_rfl) rfl fun a hF => ?_
                refine eQ 94 (v0 := .slice AA4 la.length cc4) (v := .slice AA4 la.length cc4) hF (by kernel_rfl) (fun _ => by kernel_rfl) rfl fun a hF => ?_
                refine eQ 95 (v0 := .int .i64 (i : Int)) (v := .int .i64 (i : Int)) hF (by kernel_rfl) (fun _ => by kernel_rfl) rfl fun a hF => ?_
                refine eQ2 96 (v := .pointer (some (ea AA4 (i * 2)))) hF (by kernel_rfl) (yld_ix (kd := .i64) (e := 30) (len := la.length) (cap := cc4) (i := (i : Int)) (size := 2) (A := AA4) hF rfl (by kernel_rfl) (by kernel_rfl) (by kernel_rfl) (by kernel_rfl) (by kernel_rfl) (roO 9 rfl) (by omega) (by omega) (by rw [flat2_length]; omega)) fun a hF => ?_
                refine eQ 97 (v0 := .pointer (some (ea AA4 (i * 2)))) (v := .pointer (some (ea AA4 (i * 2)))) hF (by kernel_rfl) (fun _ => by kernel_rfl) rfl fun a hF => ?_
                refine eQ2 98 (v := .int .i64 (pr la i).1) hF (by kernel_rfl) (yld_ro1 (A := AA4) (j := i * 2) hF rfl (by kernel_rfl) (by kernel_rfl) (roO 9 rfl) (by kernel_rfl) (pr_fst (k := i) (by omega) (by omega))) fun a hF => ?_
                refine eQ 99 (v0 := .slice AA5 lb.length cc5) (v := .slice AA5 lb.length cc5) hF (by kernel_rfl) (fun _ => by kernel_rfl) rfl fun a hF => ?_
                refine eQ 100 (v0 := .int .i64 (j : Int)) (v := .int .i64 (j : Int)) hF (by kernel_rfl) (fun _ => by kernel_rfl) rfl fun a hF => ?_
                refine eQ2 101 (v := .pointer (some (ea AA5 (j * 2)))) hF (by kernel_rfl) (yld_ix (kd := .i64) (e := 30) (len := lb.length) (cap := cc5) (i := (j : Int)) (size := 2) (A := AA5) hF rfl (by kernel_rfl) (by kernel_rfl) (by kernel_rfl) (by kernel_rfl) (by kernel_rfl) (roO 10 rfl) (by omega) (by omega) (by rw [flat2_length]; omega)) fun a hF => ?_
                refine eQ 102 (v0 := .pointer (some (ea AA5 (j * 2)))) (v := .pointer (some (ea AA5 (j * 2)))) hF (by kernel_rfl) (fun _ => by kernel_rfl) rfl fun a hF => ?_
                refine eQ2 103 (v := .int .i64 (pr lb j).1) hF (by kernel_rfl) (yld_ro1 (A := AA5) (j := j * 2) hF rfl (by kernel_rfl) (by kernel_rfl) (roO 10 rfl) (by kernel_rfl) (pr_fst (k := j) (by omega) (by omega))) fun a hF => ?_
                refine eQ 104 (v0 := .bool (decide ((pr la i).1 ≤ (pr lb j).1))) (v := .bool (decide ((pr la i).1 ≤ (pr lb j).1))) hF (by kernel_rfl) (fun _ => by kernel_rfl) rfl fun a hF => ?_
                refine eQ 105 (v0 := .bool (decide ((pr la i).1 ≤ (pr lb j).1))) (v := .bool (decide ((pr la i).1 ≤ (pr lb j).1))) hF (by kernel_rfl) (fun _ => by kernel_rfl) rfl fun a hF => ?_
                refine eQ 106 (v0 := .bool (decide ((pr la i).1 ≤ (pr lb j).1))) (v := .bool (decide ((pr la i).1 ≤ (pr lb j).1))) hF (by kernel_rfl) (fun _ => by kernel_rfl) rfl fun a hF => ?_
                refine wpQuiet_nil ?_
                intro w hM
                refine hK14 _ _ ?_
                by_cases hz8 : (pr la i).1 ≤ (pr lb j).1
                · skip
                  replace hF := hF.c hF (i := 104) (v := .bool true) rfl (bT hz8)
                  replace hF := hF.c hF (i := 105) (v := .bool true) rfl (bT hz8)
                  replace hF := hF.c hF (i := 106) (v := .bool true) rfl (bT hz8)
                  refine cT hF (by kernel_rfl) (by kernel_rfl) ?_
                  refine wp_seq_k fun K16 hK16 => ?_
                  refine wp_region_lit ?_
                  refine sB 3 [(107, .slice G1 on c1), (108, .slice AA4 la.length cc4), (109, .int .i64 (i : Int))] hF (by kernel_rfl) fun a hF => ?_
                  refine wl (eM 110 (v := .pointer (some (ea AA4 (i * 2)))) hF hM (by kernel_rfl) (yld_ix (kd := .i64) (e := 30) (len := la.length) (cap := cc4) (i := (i : Int)) (size := 2) (A := AA4) hF rfl (by kernel_rfl) (by kernel_rfl) (by kernel_rfl) (by kernel_rfl) (by kernel_rfl) (roO 9 rfl) (by omega) (by omega) (by rw [flat2_length]; omega)) fun a w hF hM => ?_)
                  refine wl (eM 111 (v := .agg #[.int .i64 (pr la i).1, .int .i64 (pr la i).2]) hF hM (by kernel_rfl) (yld_roM (A := AA4) (j := i * 2) (us := [.int .i64 (pr la i).1, .int .i64 (pr la i).2]) hF rfl (by kernel_rfl) (by kernel_rfl) (roO 9 rfl) (by kernel_rfl) rfl (pr_both (k := i) (by omega) (by omega))) fun a w hF hM => ?_)
                  refine wl (eN 112 13 (t := 30) (fun b => .slice (some ⟨b, 0, none⟩) 1 1) #[.int .i64 (pr la i).1, .int .i64 (pr la i).2] hF hM (by kernel_rfl) (fun _ => by kernel_rfl) fun bb8 a w hF hM => ?_)
                  refine wl (sApp 113 11 (e := 30) (size := 2) (bytes := 16) (z := .agg #[.int .i64 0, .int .i64 0]) (m := 1) (c := 1) (l := on) (cap := c1) (A := G1) (news := [.int .i64 (pr la i).1, .int .i64 (pr la i).2]) (flat2 (oo ++ [((pr la i).1, (pr la i).2)])) hF hM (by kernel_rfl) rfl (by kernel_rfl) (by kernel_rfl) (by kernel_rfl) rfl rfl rfl rfl (roR 13 rfl) (by simp [Value.oneCell']) (by omega) (by decide) (flat2_snoc' _ _ _) fun AA9 cc9 a w hF hM => ?_)
                  refine sB 1 [(9, .slice AA9 (on + 1) cc9)] hF (by kernel_rfl) fun a hF => ?_
                  refine wpList_nil ?_
                  refine hK16 _ _ ?_
                  refine wp_region_lit ?_
                  refine sB 1 [(114, .int .i64 (i : Int))] hF (by kernel_rfl) fun a hF => ?_
                  refine wl (eP 115 (v0 := .int .i64 (IntKind.i64.wrap ((i : Int) + 1))) (v := .int .i64 ((i : Int) + 1)) hF (by kernel_rfl) (fun _ => by kernel_rfl) (wi (by omega)) fun a hF => ?_)
                  refine sB 1 [(11, .int .i64 ((i : Int) + 1))] hF (by kernel_rfl) fun a hF => ?_
                  refine wpList_nil ?_
                  refine hK11 _ _ ⟨(i + 1, j, oo ++ [((pr la i).1, (pr la i).2)], on + 1, AA9, cc9), ⟨(((((((((((Fr.nil hF).c hF (i := 10) rfl rfl).c hF (i := 8) rfl rfl).c hF (i := 7) rfl rfl).c hF (i := 6) rfl rfl).c hF (i := 5) rfl rfl).c hF (i := 4) rfl rfl).c hF (i := 1) rfl rfl).c hF (i := 12) rfl rfl).c hF (i := 11) rfl (vi (show ((i : Int) + 1 : Int) = ((i + 1) : Int) from by omega))).c hF (i := 9) rfl rfl), (hM.sub ((((((((((Sub.nil.c (k := 11) rfl rfl).c (k := 10) rfl rfl).c (k := 9) rfl rfl).c (k := 8) rfl rfl).c (k := 7) rfl rfl).c (k := 5) rfl rfl).c (k := 4) rfl rfl).c (k := 3) rfl rfl).c (k := 2) rfl rfl).c (k := 1) rfl rfl)), (show ((i + 1) : Int) ≤ (la.length : Int) from by omega), (show (j : Int) ≤ (lb.length : Int) from by omega), (show ((on + 1) : Int) = ((i + 1) : Int) + (j : Int) from by omega), (show ((oo ++ [((pr la i).1, (pr la i).2)]).length : Int) = ((on + 1) : Int) from by first | omega | (simp; omega)), (show bkE (ab + bb_) (ar + br) = 0 → Mg ab ar bb_ br la lb (oo ++ [((pr la i).1, (pr la i).2)]) (i + 1) j from by exact fun hs => (hMg hs).left cfa (by omega) (by omega) (by omega) (fun q => by omega))⟩, (show la.length + lb.length - ((i + 1) + j) < la.length + lb.length - (i + j) from by omega)⟩
                · skip
                  replace hF := hF.c hF (i := 104) (v := .bool false) rfl (bF hz8)
                  replace hF := hF.c hF (i := 105) (v := .bool false) rfl (bF hz8)
                  replace hF := hF.c hF (i := 106) (v := .bool false) rfl (bF hz8)
                  refine cF hF (by kernel_rfl) (by kernel_rfl) ?_
                  refine wp_seq_k fun K17 hK17 => ?_
                  refine wp_region_lit ?_
                  refine sB 3 [(116, .slice G1 on c1), (117, .slice AA5 lb.length cc5), (118, .int .i64 (j : Int))] hF (by kernel_rfl) fun a hF => ?_
                  refine wl (eM 119 (v := .pointer (some (ea AA5 (j * 2)))) hF hM (by kernel_rfl) (yld_ix (kd := .i64) (e := 30) (len := lb.length) (cap := cc5) (i := (j : Int)) (size := 2) (A := AA5) hF rfl (by kernel_rfl) (by kernel_rfl) (by kernel_rfl) (by kernel_rfl) (by kernel_rfl) (roO 10 rfl) (by omega) (by omega) (by rw [flat2_length]; omega)) fun a w hF hM => ?_)
                  refine wl (eM 120 (v := .agg #[.int .i64 (pr lb j).1, .int .i64 (pr lb j).2]) hF hM (by kernel_rfl) (yld_roM (A := AA5) (j := j * 2) (us := [.int .i64 (pr lb j).1, .int .i64 (pr lb j).2]) hF rfl (by kernel_rfl) (by kernel_rfl) (roO 10 rfl) (by kernel_rfl) rfl (pr_both (k := j) (by omega) (by omega))) fun a w hF hM => ?_)
                  refine wl (eN 121 14 (t := 30) (fun b => .slice (some ⟨b, 0, none⟩) 1 1) #[.int .i64 (pr lb j).1, .int .i64 (pr lb j).2] hF hM (by kernel_rfl) (fun _ => by kernel_rfl) fun bb10 a w hF hM => ?_)
                  refine wl (sApp 122 11 (e := 30) (size := 2) (bytes := 16) (z := .agg #[.int .i64 0, .int .i64 0]) (m := 1) (c := 1) (l := on) (cap := c1) (A := G1) (news := [.int .i64 (pr lb j).1, .int .i64 (pr lb j).2]) (flat2 (oo ++ [((pr lb j).1, (pr lb j).2)])) hF hM (by kernel_rfl) rfl (by kernel_rfl) (by kernel_rfl) (by kernel_rfl) rfl rfl rfl rfl (roR 14 rfl) (by simp [Value.oneCell']) (by omega) (by decide) (flat2_snoc' _ _ _) fun AA11 cc11 a w hF hM => ?_)
                  refine sB 1 [(9, .slice AA11 (on + 1) cc11)] hF (by kernel_rfl) fun a hF => ?_
                  refine wpList_nil ?_
                  refine hK17 _ _ ?_
                  refine wp_region_lit ?_
                  refine sB 1 [(123, .int .i64 (j : Int))] hF (by kernel_rfl) fun a hF => ?_
                  refine wl (eP 124 (v0 := .int .i64 (IntKind.i64.wrap ((j : Int) + 1))) (v := .int .i64 ((j : Int) + 1)) hF (by kernel_rfl) (fun _ => by kernel_rfl) (wi (by omega)) fun a hF => ?_)
                  refine sB 1 [(12, .int .i64 ((j : Int) + 1))] hF (by kernel_rfl) fun a hF => ?_
                  refine wpList_nil ?_
                  refine hK11 _ _ ⟨(i, j + 1, oo ++ [((pr lb j).1, (pr lb j).2)], on + 1, AA11, cc11), ⟨(((((((((((Fr.nil hF).c hF (i := 10) rfl rfl).c hF (i := 8) rfl rfl).c hF (i := 7) rfl rfl).c hF (i := 6) rfl rfl).c hF (i := 5) rfl rfl).c hF (i := 4) rfl rfl).c hF (i := 1) rfl rfl).c hF (i := 12) rfl (vi (show ((j : Int) + 1 : Int) = ((j + 1) : Int) from by omega))).c hF (i := 11) rfl rfl).c hF (i := 9) rfl rfl), (hM.sub ((((((((((Sub.nil.c (k := 11) rfl rfl).c (k := 10) rfl rfl).c (k := 9) rfl rfl).c (k := 8) rfl rfl).c (k := 7) rfl rfl).c (k := 5) rfl rfl).c (k := 4) rfl rfl).c (k := 3) rfl rfl).c (k := 2) rfl rfl).c (k := 1) rfl rfl)), (show (i : Int) ≤ (la.length : Int) from by omega), (show ((j + 1) : Int) ≤ (lb.length : Int) from by omega), (show ((on + 1) : Int) = (i : Int) + ((j + 1) : Int) from by omega), (show ((oo ++ [((pr lb j).1, (pr lb j).2)]).length : Int) = ((on + 1) : Int) from by first | omega | (simp; omega)), (show bkE (ab + bb_) (ar + br) = 0 → Mg ab ar bb_ br la lb (oo ++ [((pr lb j).1, (pr lb j).2)]) i (j + 1) from by exact fun hs => (hMg hs).right cfb (by omega) (by omega) (by omega) (fun q => by omega))⟩, (show la.length + lb.length - (i + (j + 1)) < la.length + lb.length - (i + j) from by omega)⟩
            · skip
              refine wp_region_lit ?_
              refine sB 3 [(74, .int .i64 (i : Int)), (75, .slice AA4 la.length cc4), (76, .int .i64 (la.length : Int))] hF (by kernel_rfl) fun a hF => ?_
              refine wl (eP 77 (v0 := .bool (decide ((i : Int) < (la.length : Int)))) (v := .bool false) hF (by kernel_rfl) (fun _ => by kernel_rfl) (bF hz6) fun a hF => ?_)
              refine sB 6 [(78, .bool false), (79, .int .i64 (j : Int)), (80, .slice AA5 lb.length cc5), (81, .int .i64 (lb.length : Int)), (82, .bool (decide ((j : Int) < (lb.length : Int)))), (83, .bool (decide ((j : Int) < (lb.length : Int))))] hF (by kernel_rfl) fun a hF => ?_
              refine wpList_nil ?_
              refine hK13 _ _ ?_
              by_cases hz9 : (j : Int) < (lb.length : Int)
              · skip
                replace hF := hF.c hF (i := 82) (v := .bool true) rfl (bT hz9)
                replace hF := hF.c hF (i := 83) (v := .bool true) rfl (bT hz9)
                refine cT hF (by kernel_rfl) (by kernel_rfl) ?_
                refine wp_skip ?_
                refine hK12 _ _ ?_
                refine wp_block ?_
                refine wp_seq_k fun K18 hK18 => ?_
                refine rQ hM (by kernel_rfl) (by kernel_rfl) ?_
                refine eQ 84 (v0 := .int .i64 (j : Int)) (v := .int .i64 (j : Int)) hF (by kernel_rfl) (fun _ => by kernel_rfl) rfl fun a hF => ?_
                refine eQ 85 (v0 := .slice AA5 lb.length cc5) (v := .slice AA5 lb.length cc5) hF (by kernel_rfl) (fun _ => by kernel_rfl) rfl fun a hF => ?_
                refine eQ 86 (v0 := .int .i64 (lb.length : Int)) (v := .int .i64 (lb.length : Int)) hF (by kernel_rfl) (fun _ => by kernel_rfl) rfl fun a hF => ?_
                refine eQ 87 (v0 := .bool (decide ((j : Int) = (lb.length : Int)))) (v := .bool false) hF (by kernel_rfl) (fun _ => by kernel_rfl) (bF (by omega)) fun a hF => ?_
                refine eQ 88 (v0 := .bool false) (v := .bool false) hF (by kernel_rfl) (fun _ => by kernel_rfl) rfl fun a hF => ?_
                refine eQ 89 (v0 := .int .i64 (i : Int)) (v := .int .i64 (i : Int)) hF (by kernel_rfl) (fun _ => by kernel_rfl) rfl fun a hF => ?_
                refine eQ 90 (v0 := .slice AA4 la.length cc4) (v := .slice AA4 la.length cc4) hF (by kernel_rfl) (fun _ => by kernel_rfl) rfl fun a hF => ?_
                refine eQ 91 (v0 := .int .i64 (la.length : Int)) (v := .int .i64 (la.length : Int)) hF (by kernel_rfl) (fun _ => by kernel_rfl) rfl fun a hF => ?_
                refine eQ 92 (v0 := .bool (decide ((i : Int) < (la.length : Int)))) (v := .bool false) hF (by kernel_rfl) (fun _ => by kernel_rfl) (bF hz6) fun a hF => ?_
                refine eQ 93 (v0 := .bool false) (v := .bool false) hF (by kernel_rfl) (fun _ => by kernel_rfl) rfl fun a hF => ?_
                refine qSkip hF (by kernel_rfl) rfl (by decide) fun a hF => ?_
                refine qSkip hF (by kernel_rfl) rfl (by decide) fun a hF => ?_
                refine qSkip hF (by kernel_rfl) rfl (by decide) fun a hF => ?_
                refine qSkip hF (by kernel_rfl) rfl (by decide) fun a hF => ?_
                refine qSkip hF (by kernel_rfl) rfl (by decide) fun a hF => ?_
                refine qSkip hF (by kernel_rfl) rfl (by decide) fun a hF => ?_
                refine qSkip hF (by kernel_rfl) rfl (by decide) fun a hF => ?_
                refine qSkip hF (by kernel_rfl) rfl (by decide) fun a hF => ?_
                refine qSkip hF (by kernel_rfl) rfl (by decide) fun a hF => ?_
                refine qSkip hF (by kernel_rfl) rfl (by decide) fun a hF => ?_
                refine qSkip hF (by kernel_rfl) rfl (by decide) fun a hF => ?_
                refine eQ 105 (v0 := .bool false) (v := .bool false) hF (by kernel_rfl) (fun _ => by kernel_rfl) rfl fun a hF => ?_
                refine eQ 106 (v0 := .bool false) (v := .bool false) hF (by kernel_rfl) (fun _ => by kernel_rfl) rfl fun a hF => ?_
                refine wpQuiet_nil ?_
                intro w hM
                refine hK18 _ _ ?_
                refine cF hF (by kernel_rfl) (by kernel_rfl) ?_
                refine wp_seq_k fun K19 hK19 => ?_
                refine wp_region_lit ?_
                refine sB 3 [(116, .slice G1 on c1), (117, .slice AA5 lb.length cc5), (118, .int .i64 (j : Int))] hF (by kernel_rfl) fun a hF => ?_
                refine wl (eM 119 (v := .pointer (some (ea AA5 (j * 2)))) hF hM (by kernel_rfl) (yld_ix (kd := .i64) (e := 30) (len := lb.length) (cap := cc5) (i := (j : Int)) (size := 2) (A := AA5) hF rfl (by kernel_rfl) (by kernel_rfl) (by kernel_rfl) (by kernel_rfl) (by kernel_rfl) (roO 10 rfl) (by omega) (by omega) (by rw [flat2_length]; omega)) fun a w hF hM => ?_)
                refine wl (eM 120 (v := .agg #[.int .i64 (pr lb j).1, .int .i64 (pr lb j).2]) hF hM (by kernel_rfl) (yld_roM (A := AA5) (j := j * 2) (us := [.int .i64 (pr lb j).1, .int .i64 (pr lb j).2]) hF rfl (by kernel_rfl) (by kernel_rfl) (roO 10 rfl) (by kernel_rfl) rfl (pr_both (k := j) (by omega) (by omega))) fun a w hF hM => ?_)
                refine wl (eN 121 15 (t := 30) (fun b => .slice (some ⟨b, 0, none⟩) 1 1) #[.int .i64 (pr lb j).1, .int .i64 (pr lb j).2] hF hM (by kernel_rfl) (fun _ => by kernel_rfl) fun bb12 a w hF hM => ?_)
                refine wl (sApp 122 11 (e := 30) (size := 2) (bytes := 16) (z := .agg #[.int .i64 0, .int .i64 0]) (m := 1) (c := 1) (l := on) (cap := c1) (A := G1) (news := [.int .i64 (pr lb j).1, .int .i64 (pr lb j).2]) (flat2 (oo ++ [((pr lb j).1, (pr lb j).2)])) hF hM (by kernel_rfl) rfl (by kernel_rfl) (by kernel_rfl) (by kernel_rfl) rfl rfl rfl rfl (roR 15 rfl) (by simp [Value.oneCell']) (by omega) (by decide) (flat2_snoc' _ _ _) fun AA13 cc13 a w hF hM => ?_)
                refine sB 1 [(9, .slice AA13 (on + 1) cc13)] hF (by kernel_rfl) fun a hF => ?_
                refine wpList_nil ?_
                refine hK19 _ _ ?_
                refine wp_region_lit ?_
                refine sB 1 [(123, .int .i64 (j : Int))] hF (by kernel_rfl) fun a hF => ?_
                refine wl (eP 124 (v0 := .int .i64 (IntKind.i64.wrap ((j : Int) + 1))) (v := .int .i64 ((j : Int) + 1)) hF (by kernel_rfl) (fun _ => by kernel_rfl) (wi (by omega)) fun a hF => ?_)
                refine sB 1 [(12, .int .i64 ((j : Int) + 1))] hF (by kernel_rfl) fun a hF => ?_
                refine wpList_nil ?_
                refine hK11 _ _ ⟨(i, j + 1, oo ++ [((pr lb j).1, (pr lb j).2)], on + 1, AA13, cc13), ⟨(((((((((((Fr.nil hF).c hF (i := 10) rfl rfl).c hF (i := 8) rfl rfl).c hF (i := 7) rfl rfl).c hF (i := 6) rfl rfl).c hF (i := 5) rfl rfl).c hF (i := 4) rfl rfl).c hF (i := 1) rfl rfl).c hF (i := 12) rfl (vi (show ((j : Int) + 1 : Int) = ((j + 1) : Int) from by omega))).c hF (i := 11) rfl rfl).c hF (i := 9) rfl rfl), (hM.sub ((((((((((Sub.nil.c (k := 11) rfl rfl).c (k := 10) rfl rfl).c (k := 9) rfl rfl).c (k := 8) rfl rfl).c (k := 7) rfl rfl).c (k := 5) rfl rfl).c (k := 4) rfl rfl).c (k := 3) rfl rfl).c (k := 2) rfl rfl).c (k := 1) rfl rfl)), (show (i : Int) ≤ (la.length : Int) from by omega), (show ((j + 1) : Int) ≤ (lb.length : Int) from by omega), (show ((on + 1) : Int) = (i : Int) + ((j + 1) : Int) from by omega), (show ((oo ++ [((pr lb j).1, (pr lb j).2)]).length : Int) = ((on + 1) : Int) from by first | omega | (simp; omega)), (show bkE (ab + bb_) (ar + br) = 0 → Mg ab ar bb_ br la lb (oo ++ [((pr lb j).1, (pr lb j).2)]) i (j + 1) from by exact fun hs => (hMg hs).right cfb (by omega) (by omega) (by omega) (fun q => by omega))⟩, (show la.length + lb.length - (i + (j + 1)) < la.length + lb.length - (i + j) from by omega)⟩
              · skip
                replace hF := hF.c hF (i := 82) (v := .bool false) rfl (bF hz9)
                replace hF := hF.c hF (i := 83) (v := .bool false) rfl (bF hz9)
                refine cF hF (by kernel_rfl) (by kernel_rfl) ?_
                refine wp_exit ?_
                refine hK9 _ _ ?_
                refine wp_seq_k fun K20 hK20 => ?_
                refine wp_seq_k fun K21 hK21 => ?_
                refine wp_region_lit ?_
                refine sB 1 [(13, .int .i64 0)] hF (by kernel_rfl) fun a hF => ?_
                refine wpList_nil ?_
                refine hK21 _ _ ?_
                refine wp_block ?_
                replace hM := hM.addNil 16 30 2
                refine wp_loop_k (G := Nat × List (Int × Int) × Nat × Option Addr × Nat) (fun gg a w => Fr 180 [(10, some (.slice gg.2.2.2.1 gg.2.2.1 gg.2.2.2.2)), (13, some (.int .i64 (gg.1 : Int))), (1, some (.slice Ka kl.length ck)), (4, some (.bool false)), (5, some (.pointer (some ⟨bb2, 0, none⟩))), (6, some (.pointer (some ⟨bb3, 0, none⟩))), (7, some (.slice AA4 la.length cc4)), (9, some (.slice G1 on c1))] a ∧ Mem w0.heap.size w0 [(1, some (.ro Gaa (gapsa.map (Value.int .u16)))), (2, some (.ro Saa (sizesa.map (Value.int .u16)))), (3, some (.ro Gab (gapsb.map (Value.int .u16)))), (4, some (.ro Sab (sizesb.map (Value.int .u16)))), (5, some (.ro Ka (kl.map Value.bool))), (7, some (.row bb2 23 #[.int .i64 ab, .int .i64 ar])), (8, some (.row bb3 23 #[.int .i64 bb_, .int .i64 br])), (9, some (.own (.slice AA4 la.length cc4) 30 2 la.length (flat2 la))), (11, some (.own (.slice G1 on c1) 30 2 on (flat2 oo))), (16, some (.own (.slice gg.2.2.2.1 gg.2.2.1 gg.2.2.2.2) 30 2 gg.2.2.1 (flat2 gg.2.1)))] w ∧ ((gg.1 : Int) ≤ (la.length : Int)) ∧ ((gg.2.2.1 : Int) ≤ (gg.1 : Int)) ∧ ((gg.2.1.length : Int) = (gg.2.2.1 : Int)) ∧ (Part ab ar la gg.2.1 gg.1)) (fun gg => la.length - gg.1) (0, [], 0, none, 0) ?_ ?_
                · refine ⟨(((((((((Fr.nil hF).c hF (i := 9) rfl rfl).c hF (i := 7) rfl rfl).c hF (i := 6) rfl rfl).c hF (i := 5) rfl rfl).c hF (i := 4) rfl rfl).c hF (i := 1) rfl rfl).c hF (i := 13) rfl (vi (show (0 : Int) = (0 : Int) from by omega))).c hF (i := 10) rfl rfl), (hM.sub ((((((((((Sub.nil.c (k := 16) rfl rfl).c (k := 11) rfl rfl).c (k := 9) rfl rfl).c (k := 8) rfl rfl).c (k := 7) rfl rfl).c (k := 5) rfl rfl).c (k := 4) rfl rfl).c (k := 3) rfl rfl).c (k := 2) rfl rfl).c (k := 1) rfl rfl)), (show (0 : Int) ≤ (la.length : Int) from by omega), (show (0 : Int) ≤ (0 : Int) from by omega), (show (([]).length : Int) = (0 : Int) from by rfl), (show Part ab ar la ([]) 0 from by exact Part.zero la hab2)⟩
                · intro gg a w hI
                  intro K22 hK22
                  obtain ⟨k, pp, pn, G2, c2⟩ := gg
                  try dsimp only at hI hK22
                  obtain ⟨hF, hM, hz10, hz11, hz12, hz13⟩ := hI
                  have hPt : Part ab ar la pp k := by assumption
                  refine wp_seq_k fun K23 hK23 => ?_
                  refine wp_seq_k fun K24 hK24 => ?_
                  refine wp_region_lit ?_
                  refine sB 4 [(125, .int .i64 (k : Int)), (126, .slice AA4 la.length cc4), (127, .int .i64 (la.length : Int)), (128, .bool (decide ((k : Int) < (la.length : Int))))] hF (by kernel_rfl) fun a hF => ?_
                  refine wpList_nil ?_
                  refine hK24 _ _ ?_
                  by_cases hz14 : (k : Int) < (la.length : Int)
                  · skip
                    replace hF := hF.c hF (i := 128) (v := .bool true) rfl (bT hz14)
                    refine cT hF (by kernel_rfl) (by kernel_rfl) ?_
                    refine wp_skip ?_
                    refine hK23 _ _ ?_
                    refine wp_seq_k fun K25 hK25 => ?_
                    refine wp_block ?_
                    refine wp_seq_k fun K26 hK26 => ?_
                    by_cases hz15 : (kl.length : Int) ≤ (k : Int)
                    · skip
                      refine wp_region_lit ?_
                      refine sB 3 [(131, .int .i64 (k : Int)), (132, .slice Ka kl.length ck), (133, .int .i64 (kl.length : Int))] hF (by kernel_rfl) fun a hF => ?_
                      refine wl (eP 134 (v0 := .bool (decide ((kl.length : Int) ≤ (k : Int)))) (v := .bool true) hF (by kernel_rfl) (fun _ => by kernel_rfl) (bT hz15) fun a hF => ?_)
                      refine sB 6 [(135, .bool true), (136, undef), (137, undef), (138, undef), (139, undef), (140, .bool true)] hF (by kernel_rfl) fun a hF => ?_
                      refine wpList_nil ?_
                      refine hK26 _ _ ?_
                      refine cT hF (by kernel_rfl) (by kernel_rfl) ?_
                      refine wp_region_lit ?_
                      refine sB 3 [(141, .slice G2 pn c2), (142, .slice AA4 la.length cc4), (143, .int .i64 (k : Int))] hF (by kernel_rfl) fun a hF => ?_
                      refine wl (eM 144 (v := .pointer (some (ea AA4 (k * 2)))) hF hM (by kernel_rfl) (yld_ix (kd := .i64) (e := 30) (len := la.length) (cap := cc4) (i := (k : Int)) (size := 2) (A := AA4) hF rfl (by kernel_rfl) (by kernel_rfl) (by kernel_rfl) (by kernel_rfl) (by kernel_rfl) (roO 9 rfl) (by omega) (by omega) (by rw [flat2_length]; omega)) fun a w hF hM => ?_)
                      refine wl (eM 145 (v := .agg #[.int .i64 (pr la k).1, .int .i64 (pr la k).2]) hF hM (by kernel_rfl) (yld_roM (A := AA4) (j := k * 2) (us := [.int .i64 (pr la k).1, .int .i64 (pr la k).2]) hF rfl (by kernel_rfl) (by kernel_rfl) (roO 9 rfl) (by kernel_rfl) rfl (pr_both (k := k) (by omega) (by omega))) fun a w hF hM => ?_)
                      refine wl (eN 146 17 (t := 30) (fun b => .slice (some ⟨b, 0, none⟩) 1 1) #[.int .i64 (pr la k).1, .int .i64 (pr la k).2] hF hM (by kernel_rfl) (fun _ => by kernel_rfl) fun bb14 a w hF hM => ?_)
                      refine wl (sApp 147 16 (e := 30) (size := 2) (bytes := 16) (z := .agg #[.int .i64 0, .int .i64 0]) (m := 1) (c := 1) (l := pn) (cap := c2) (A := G2) (news := [.int .i64 (pr la k).1, .int .i64 (pr la k).2]) (flat2 (pp ++ [((pr la k).1, (pr la k).2)])) hF hM (by kernel_rfl) rfl (by kernel_rfl) (by kernel_rfl) (by kernel_rfl) rfl rfl rfl rfl (roR 17 rfl) (by simp [Value.oneCell']) (by omega) (by decide) (flat2_snoc' _ _ _) fun AA15 cc15 a w hF hM => ?_)
                      refine sB 1 [(10, .slice AA15 (pn + 1) cc15)] hF (by kernel_rfl) fun a hF => ?_
                      refine wpList_nil ?_
                      refine hK25 _ _ ?_
                      refine wp_region_lit ?_
                      refine sB 1 [(129, .int .i64 (k : Int))] hF (by kernel_rfl) fun a hF => ?_
                      refine wl (eP 130 (v0 := .int .i64 (IntKind.i64.wrap ((k : Int) + 1))) (v := .int .i64 ((k : Int) + 1)) hF (by kernel_rfl) (fun _ => by kernel_rfl) (wi (by omega)) fun a hF => ?_)
                      refine sB 1 [(13, .int .i64 ((k : Int) + 1))] hF (by kernel_rfl) fun a hF => ?_
                      refine wpList_nil ?_
                      refine hK22 _ _ ⟨(k + 1, pp ++ [((pr la k).1, (pr la k).2)], pn + 1, AA15, cc15), ⟨(((((((((Fr.nil hF).c hF (i := 9) rfl rfl).c hF (i := 7) rfl rfl).c hF (i := 6) rfl rfl).c hF (i := 5) rfl rfl).c hF (i := 4) rfl rfl).c hF (i := 1) rfl rfl).c hF (i := 13) rfl (vi (show ((k : Int) + 1 : Int) = ((k + 1) : Int) from by omega))).c hF (i := 10) rfl rfl), (hM.sub ((((((((((Sub.nil.c (k := 16) rfl rfl).c (k := 11) rfl rfl).c (k := 9) rfl rfl).c (k := 8) rfl rfl).c (k := 7) rfl rfl).c (k := 5) rfl rfl).c (k := 4) rfl rfl).c (k := 3) rfl rfl).c (k := 2) rfl rfl).c (k := 1) rfl rfl)), (show ((k + 1) : Int) ≤ (la.length : Int) from by omega), (show ((pn + 1) : Int) ≤ ((k + 1) : Int) from by omega), (show ((pp ++ [((pr la k).1, (pr la k).2)]).length : Int) = ((pn + 1) : Int) from by first | omega | (simp; omega)), (show Part ab ar la (pp ++ [((pr la k).1, (pr la k).2)]) (k + 1) from by exact hPt.keep cfa (by omega))⟩, (show la.length - (k + 1) < la.length - k from by omega)⟩
                    · skip
                      refine wp_region_lit ?_
                      refine sB 3 [(131, .int .i64 (k : Int)), (132, .slice Ka kl.length ck), (133, .int .i64 (kl.length : Int))] hF (by kernel_rfl) fun a hF => ?_
                      refine wl (eP 134 (v0 := .bool (decide ((kl.length : Int) ≤ (k : Int)))) (v := .bool false) hF (by kernel_rfl) (fun _ => by kernel_rfl) (bF hz15) fun a hF => ?_)
                      refine sB 3 [(135, .bool false), (136, .slice Ka kl.length ck), (137, .int .i64 (k : Int))] hF (by kernel_rfl) fun a hF => ?_
                      refine wl (eM 138 (v := .pointer (some (ea Ka (k)))) hF hM (by kernel_rfl) (yld_ix (kd := .i64) (e := 4) (len := kl.length) (cap := ck) (i := (k : Int)) (size := 1) (A := Ka) hF rfl (by kernel_rfl) (by kernel_rfl) (by kernel_rfl) (by kernel_rfl) (by kernel_rfl) (roK 5 rfl) (by omega) (by omega) (by (try simp only [List.length_map, List.length_append, List.length_replicate, List.length_set, List.length_cons, List.length_nil, flat2_length, List.length_take]); omega)) fun a w hF hM => ?_)
                      refine wl (eM 139 (v := .bool (bt kl k)) hF hM (by kernel_rfl) (yld_ro1 (A := Ka) (j := k) hF rfl (by kernel_rfl) (by kernel_rfl) (roK 5 rfl) (by kernel_rfl) (bt_at (by omega))) fun a w hF hM => ?_)
                      refine sB 1 [(140, .bool (bt kl k))] hF (by kernel_rfl) fun a hF => ?_
                      refine wpList_nil ?_
                      refine hK26 _ _ ?_
                      cases hz16 : (bt kl k)
                      · skip
                        replace hF := hF.c hF (i := 139) (v := .bool false) rfl (congrArg Value.bool hz16)
                        replace hF := hF.c hF (i := 140) (v := .bool false) rfl (congrArg Value.bool hz16)
                        refine cF hF (by kernel_rfl) (by kernel_rfl) ?_
                        refine wp_skip ?_
                        refine hK25 _ _ ?_
                        refine wp_region_lit ?_
                        refine sB 1 [(129, .int .i64 (k : Int))] hF (by kernel_rfl) fun a hF => ?_
                        refine wl (eP 130 (v0 := .int .i64 (IntKind.i64.wrap ((k : Int) + 1))) (v := .int .i64 ((k : Int) + 1)) hF (by kernel_rfl) (fun _ => by kernel_rfl) (wi (by omega)) fun a hF => ?_)
                        refine sB 1 [(13, .int .i64 ((k : Int) + 1))] hF (by kernel_rfl) fun a hF => ?_
                        refine wpList_nil ?_
                        refine hK22 _ _ ⟨(k + 1, pp, pn, G2, c2), ⟨(((((((((Fr.nil hF).c hF (i := 9) rfl rfl).c hF (i := 7) rfl rfl).c hF (i := 6) rfl rfl).c hF (i := 5) rfl rfl).c hF (i := 4) rfl rfl).c hF (i := 1) rfl rfl).c hF (i := 13) rfl (vi (show ((k : Int) + 1 : Int) = ((k + 1) : Int) from by omega))).c hF (i := 10) rfl rfl), (hM.sub ((((((((((Sub.nil.c (k := 16) rfl rfl).c (k := 11) rfl rfl).c (k := 9) rfl rfl).c (k := 8) rfl rfl).c (k := 7) rfl rfl).c (k := 5) rfl rfl).c (k := 4) rfl rfl).c (k := 3) rfl rfl).c (k := 2) rfl rfl).c (k := 1) rfl rfl)), (show ((k + 1) : Int) ≤ (la.length : Int) from by omega), (show (pn : Int) ≤ ((k + 1) : Int) from by omega), (show (pp.length : Int) = (pn : Int) from by omega), (show Part ab ar la pp (k + 1) from by exact hPt.skip cfa (by omega))⟩, (show la.length - (k + 1) < la.length - k from by omega)⟩
                      · skip
                        replace hF := hF.c hF (i := 139) (v := .bool true) rfl (congrArg Value.bool hz16)
                        replace hF := hF.c hF (i := 140) (v := .bool true) rfl (congrArg Value.bool hz16)
                        refine cT hF (by kernel_rfl) (by kernel_rfl) ?_
                        refine wp_region_lit ?_
                        refine sB 3 [(141, .slice G2 pn c2), (142, .slice AA4 la.length cc4), (143, .int .i64 (k : Int))] hF (by kernel_rfl) fun a hF => ?_
                        refine wl (eM 144 (v := .pointer (some (ea AA4 (k * 2)))) hF hM (by kernel_rfl) (yld_ix (kd := .i64) (e := 30) (len := la.length) (cap := cc4) (i := (k : Int)) (size := 2) (A := AA4) hF rfl (by kernel_rfl) (by kernel_rfl) (by kernel_rfl) (by kernel_rfl) (by kernel_rfl) (roO 9 rfl) (by omega) (by omega) (by rw [flat2_length]; omega)) fun a w hF hM => ?_)
                        refine wl (eM 145 (v := .agg #[.int .i64 (pr la k).1, .int .i64 (pr la k).2]) hF hM (by kernel_rfl) (yld_roM (A := AA4) (j := k * 2) (us := [.int .i64 (pr la k).1, .int .i64 (pr la k).2]) hF rfl (by kernel_rfl) (by kernel_rfl) (roO 9 rfl) (by kernel_rfl) rfl (pr_both (k := k) (by omega) (by omega))) fun a w hF hM => ?_)
                        refine wl (eN 146 18 (t := 30) (fun b => .slice (some ⟨b, 0, none⟩) 1 1) #[.int .i64 (pr la k).1, .int .i64 (pr la k).2] hF hM (by kernel_rfl) (fun _ => by kernel_rfl) fun bb16 a w hF hM => ?_)
                        refine wl (sApp 147 16 (e := 30) (size := 2) (bytes := 16) (z := .agg #[.int .i64 0, .int .i64 0]) (m := 1) (c := 1) (l := pn) (cap := c2) (A := G2) (news := [.int .i64 (pr la k).1, .int .i64 (pr la k).2]) (flat2 (pp ++ [((pr la k).1, (pr la k).2)])) hF hM (by kernel_rfl) rfl (by kernel_rfl) (by kernel_rfl) (by kernel_rfl) rfl rfl rfl rfl (roR 18 rfl) (by simp [Value.oneCell']) (by omega) (by decide) (flat2_snoc' _ _ _) fun AA17 cc17 a w hF hM => ?_)
                        refine sB 1 [(10, .slice AA17 (pn + 1) cc17)] hF (by kernel_rfl) fun a hF => ?_
                        refine wpList_nil ?_
                        refine hK25 _ _ ?_
                        refine wp_region_lit ?_
                        refine sB 1 [(129, .int .i64 (k : Int))] hF (by kernel_rfl) fun a hF => ?_
                        refine wl (eP 130 (v0 := .int .i64 (IntKind.i64.wrap ((k : Int) + 1))) (v := .int .i64 ((k : Int) + 1)) hF (by kernel_rfl) (fun _ => by kernel_rfl) (wi (by omega)) fun a hF => ?_)
                        refine sB 1 [(13, .int .i64 ((k : Int) + 1))] hF (by kernel_rfl) fun a hF => ?_
                        refine wpList_nil ?_
                        refine hK22 _ _ ⟨(k + 1, pp ++ [((pr la k).1, (pr la k).2)], pn + 1, AA17, cc17), ⟨(((((((((Fr.nil hF).c hF (i := 9) rfl rfl).c hF (i := 7) rfl rfl).c hF (i := 6) rfl rfl).c hF (i := 5) rfl rfl).c hF (i := 4) rfl rfl).c hF (i := 1) rfl rfl).c hF (i := 13) rfl (vi (show ((k : Int) + 1 : Int) = ((k + 1) : Int) from by omega))).c hF (i := 10) rfl rfl), (hM.sub ((((((((((Sub.nil.c (k := 16) rfl rfl).c (k := 11) rfl rfl).c (k := 9) rfl rfl).c (k := 8) rfl rfl).c (k := 7) rfl rfl).c (k := 5) rfl rfl).c (k := 4) rfl rfl).c (k := 3) rfl rfl).c (k := 2) rfl rfl).c (k := 1) rfl rfl)), (show ((k + 1) : Int) ≤ (la.length : Int) from by omega), (show ((pn + 1) : Int) ≤ ((k + 1) : Int) from by omega), (show ((pp ++ [((pr la k).1, (pr la k).2)]).length : Int) = ((pn + 1) : Int) from by first | omega | (simp; omega)), (show Part ab ar la (pp ++ [((pr la k).1, (pr la k).2)]) (k + 1) from by exact hPt.keep cfa (by omega))⟩, (show la.length - (k + 1) < la.length - k from by omega)⟩
                  · skip
                    replace hF := hF.c hF (i := 128) (v := .bool false) rfl (bF hz14)
                    refine cF hF (by kernel_rfl) (by kernel_rfl) ?_
                    refine wp_exit ?_
                    refine hK20 _ _ ?_
                    refine wp_seq_k fun K27 hK27 => ?_
                    have hcp : cfB ab ar pp = true := hPt.cf
                    by_cases hz17 : 1048576 < ab + bb_
                    · skip
                      have hcp : cfB ab ar pp = true := hPt.cf
                      refine wp_region_lit ?_
                      refine wl (eL 149 7 0 (v := .agg #[.int .i64 ab, .int .i64 ar]) hF hM (by kernel_rfl) rfl rfl (by kernel_rfl) (by kernel_rfl) fun a w hF hM => ?_)
                      refine wl (eL 150 8 0 (v := .agg #[.int .i64 bb_, .int .i64 br]) hF hM (by kernel_rfl) rfl rfl (by kernel_rfl) (by kernel_rfl) fun a w hF hM => ?_)
                      refine wl (eN 151 20 (t := 23) (fun b => .slice (some ⟨b, 0, none⟩) 2 2) #[.int .i64 ab, .int .i64 ar, .int .i64 bb_, .int .i64 br] hF hM (by kernel_rfl) (fun _ => by kernel_rfl) fun bb19 a w hF hM => ?_)
                      refine wl (eM 152 (v := .tuple #[.agg #[.int .i64 0, .int .i64 0], .int .i64 6]) hF hM (by kernel_rfl) (yld_call (f := 11) (args := #[.slice (some ⟨bb19, 0, none⟩) 2 2]) hF (by kernel_rfl) (fun _ => by kernel_rfl) (fun w hM => tup3_to ((sm_two hab2 hbb2).2 (hnS hz17)) (bSum_w (some ⟨bb19, 0, none⟩) [(ab, ar), (bb_, br)] _ w (hM.roRow (k := 20) rfl)))) fun a w hF hM => ?_)
                      refine sB 3 [(148, .tuple #[.agg #[.int .i64 0, .int .i64 0], .int .i64 6]), (153, .agg #[.int .i64 0, .int .i64 0]), (154, .int .i64 6)] hF (by kernel_rfl) fun a hF => ?_
                      refine wl (eN 14 21 (t := 23) (fun b => .pointer (some ⟨b, 0, none⟩)) #[.int .i64 0, .int .i64 0] hF hM (by kernel_rfl) (fun _ => by kernel_rfl) fun bb20 a w hF hM => ?_)
                      refine wl (sStore (i := 21) (off := 0) (cs' := #[.int .i64 0, .int .i64 0]) hF hM (by kernel_rfl) rfl rfl (by kernel_rfl) (by kernel_rfl) rfl (by kernel_rfl) fun w hM => ?_)
                      refine sB 1 [(15, .int .i64 6)] hF (by kernel_rfl) fun a hF => ?_
                      refine wpList_nil ?_
                      refine hK27 _ _ ?_
                      refine wp_seq_k fun K28 hK28 => ?_
                      refine wp_seq_k fun K29 hK29 => ?_
                      refine wp_region_lit ?_
                      refine sB 1 [(155, .pointer (some ⟨bb2, 0, none⟩))] hF (by kernel_rfl) fun a hF => ?_
                      refine wl (eL 156 7 0 (v := .int .i64 ab) hF hM (by kernel_rfl) rfl rfl (by kernel_rfl) (by kernel_rfl) fun a w hF hM => ?_)
                      refine sB 1 [(157, .pointer (some ⟨bb3, 0, none⟩))] hF (by kernel_rfl) fun a hF => ?_
                      refine wl (eL 158 8 0 (v := .int .i64 bb_) hF hM (by kernel_rfl) rfl rfl (by kernel_rfl) (by kernel_rfl) fun a w hF hM => ?_)
                      refine wl (eP 159 (v0 := .int .i64 (IntKind.i64.wrap (ab + bb_))) (v := .int .i64 (ab + bb_)) hF (by kernel_rfl) (fun _ => by kernel_rfl) (wi (by omega)) fun a hF => ?_)
                      refine wl (eP 160 (v0 := .bool (decide (1048576 < ab + bb_))) (v := .bool true) hF (by kernel_rfl) (fun _ => by kernel_rfl) (bT hz17) fun a hF => ?_)
                      refine wpList_nil ?_
                      refine hK29 _ _ ?_
                      refine cT hF (by kernel_rfl) (by kernel_rfl) ?_
                      refine wp_seq_k fun K30 hK30 => ?_
                      refine wp_region_lit ?_
                      refine sB 1 [(161, .int .i64 6)] hF (by kernel_rfl) fun a hF => ?_
                      refine wl (eP 162 (v0 := .bool (decide (6 = 6))) (v := .bool true) hF (by kernel_rfl) (fun _ => by kernel_rfl) (bT (by omega)) fun a hF => ?_)
                      refine sB 1 [(163, .bool true)] hF (by kernel_rfl) fun a hF => ?_
                      refine wl (eL 164 7 0 (v := .agg #[.int .i64 ab, .int .i64 ar]) hF hM (by kernel_rfl) rfl rfl (by kernel_rfl) (by kernel_rfl) fun a w hF hM => ?_)
                      refine sB 1 [(165, .slice G2 pn c2)] hF (by kernel_rfl) fun a hF => ?_
                      refine wl (eM 166 (v := .bool true) hF hM (by kernel_rfl) (Yld.to (yld_call (f := 30) (args := #[.agg #[.int .i64 ab, .int .i64 ar], .slice G2 pn c2]) hF (by kernel_rfl) (fun _ => by kernel_rfl) (fun w hM => (by rw [show pn = pp.length from by first | omega | (simp; done) | (simp; omega)]; exact fits3_w ab ar G2 pp _ w (ro_of_own (hM.ok 16 _ rfl))))) (congrArg Value.bool hcp)) fun a w hF hM => ?_)
                      refine sB 2 [(167, .bool true), (4, .bool true)] hF (by kernel_rfl) fun a hF => ?_
                      refine wpList_nil ?_
                      refine hK30 _ _ ?_
                      refine wp_ret ?_
                      refine hR0 _ _ ?_
                      refine ret_of hF hM (.tmp rfl (.nil)) ?_
                      exact ⟨rfl, hM.bel⟩
                    · skip
                      have hcp : cfB ab ar pp = true := hPt.cf
                      refine wp_region_lit ?_
                      refine wl (eL 149 7 0 (v := .agg #[.int .i64 ab, .int .i64 ar]) hF hM (by kernel_rfl) rfl rfl (by kernel_rfl) (by kernel_rfl) fun a w hF hM => ?_)
                      refine wl (eL 150 8 0 (v := .agg #[.int .i64 bb_, .int .i64 br]) hF hM (by kernel_rfl) rfl rfl (by kernel_rfl) (by kernel_rfl) fun a w hF hM => ?_)
                      refine wl (eN 151 22 (t := 23) (fun b => .slice (some ⟨b, 0, none⟩) 2 2) #[.int .i64 ab, .int .i64 ar, .int .i64 bb_, .int .i64 br] hF hM (by kernel_rfl) (fun _ => by kernel_rfl) fun bb21 a w hF hM => ?_)
                      refine wl (eM 152 (v := .tuple #[.agg #[.int .i64 (ab + bb_), .int .i64 (ar + br)], .int .i64 0]) hF hM (by kernel_rfl) (yld_call (f := 11) (args := #[.slice (some ⟨bb21, 0, none⟩) 2 2]) hF (by kernel_rfl) (fun _ => by kernel_rfl) (fun w hM => tup3_to ((sm_two hab2 hbb2).1 (hyS hz17)) (bSum_w (some ⟨bb21, 0, none⟩) [(ab, ar), (bb_, br)] _ w (hM.roRow (k := 22) rfl)))) fun a w hF hM => ?_)
                      refine sB 3 [(148, .tuple #[.agg #[.int .i64 (ab + bb_), .int .i64 (ar + br)], .int .i64 0]), (153, .agg #[.int .i64 (ab + bb_), .int .i64 (ar + br)]), (154, .int .i64 0)] hF (by kernel_rfl) fun a hF => ?_
                      refine wl (eN 14 23 (t := 23) (fun b => .pointer (some ⟨b, 0, none⟩)) #[.int .i64 0, .int .i64 0] hF hM (by kernel_rfl) (fun _ => by kernel_rfl) fun bb22 a w hF hM => ?_)
                      refine wl (sStore (i := 23) (off := 0) (cs' := #[.int .i64 (ab + bb_), .int .i64 (ar + br)]) hF hM (by kernel_rfl) rfl rfl (by kernel_rfl) (by kernel_rfl) rfl (by kernel_rfl) fun w hM => ?_)
                      refine sB 1 [(15, .int .i64 0)] hF (by kernel_rfl) fun a hF => ?_
                      refine wpList_nil ?_
                      refine hK27 _ _ ?_
                      refine wp_seq_k fun K31 hK31 => ?_
                      refine wp_seq_k fun K32 hK32 => ?_
                      refine wp_region_lit ?_
                      refine sB 1 [(155, .pointer (some ⟨bb2, 0, none⟩))] hF (by kernel_rfl) fun a hF => ?_
                      refine wl (eL 156 7 0 (v := .int .i64 ab) hF hM (by kernel_rfl) rfl rfl (by kernel_rfl) (by kernel_rfl) fun a w hF hM => ?_)
                      refine sB 1 [(157, .pointer (some ⟨bb3, 0, none⟩))] hF (by kernel_rfl) fun a hF => ?_
                      refine wl (eL 158 8 0 (v := .int .i64 bb_) hF hM (by kernel_rfl) rfl rfl (by kernel_rfl) (by kernel_rfl) fun a w hF hM => ?_)
                      refine wl (eP 159 (v0 := .int .i64 (IntKind.i64.wrap (ab + bb_))) (v := .int .i64 (ab + bb_)) hF (by kernel_rfl) (fun _ => by kernel_rfl) (wi (by omega)) fun a hF => ?_)
                      refine wl (eP 160 (v0 := .bool (decide (1048576 < ab + bb_))) (v := .bool false) hF (by kernel_rfl) (fun _ => by kernel_rfl) (bF hz17) fun a hF => ?_)
                      refine wpList_nil ?_
                      refine hK32 _ _ ?_
                      refine cF hF (by kernel_rfl) (by kernel_rfl) ?_
                      refine wp_skip ?_
                      refine hK31 _ _ ?_
                      refine wp_seq_k fun K33 hK33 => ?_
                      have hco : cfB (ab + bb_) (ar + br) oo = true := (hMg (hyS hz17)).cf
                      refine wp_region_lit ?_
                      refine sB 1 [(168, .int .i64 0)] hF (by kernel_rfl) fun a hF => ?_
                      refine wl (eP 169 (v0 := .bool (decide (0 = 0))) (v := .bool true) hF (by kernel_rfl) (fun _ => by kernel_rfl) (bT (by omega)) fun a hF => ?_)
                      refine sB 1 [(170, .bool true)] hF (by kernel_rfl) fun a hF => ?_
                      refine wl (eL 171 23 0 (v := .agg #[.int .i64 (ab + bb_), .int .i64 (ar + br)]) hF hM (by kernel_rfl) rfl rfl (by kernel_rfl) (by kernel_rfl) fun a w hF hM => ?_)
                      refine sB 1 [(172, .slice G1 on c1)] hF (by kernel_rfl) fun a hF => ?_
                      refine wl (eM 173 (v := .bool true) hF hM (by kernel_rfl) (Yld.to (yld_call (f := 30) (args := #[.agg #[.int .i64 (ab + bb_), .int .i64 (ar + br)], .slice G1 on c1]) hF (by kernel_rfl) (fun _ => by kernel_rfl) (fun w hM => (by rw [show on = oo.length from by first | omega | (simp; done) | (simp; omega)]; exact fits3_w (ab + bb_) (ar + br) G1 oo _ w (ro_of_own (hM.ok 11 _ rfl))))) (congrArg Value.bool hco)) fun a w hF hM => ?_)
                      refine sB 2 [(174, .bool true), (175, .bool true)] hF (by kernel_rfl) fun a hF => ?_
                      refine wl (eL 176 7 0 (v := .agg #[.int .i64 ab, .int .i64 ar]) hF hM (by kernel_rfl) rfl rfl (by kernel_rfl) (by kernel_rfl) fun a w hF hM => ?_)
                      refine sB 1 [(177, .slice G2 pn c2)] hF (by kernel_rfl) fun a hF => ?_
                      refine wl (eM 178 (v := .bool true) hF hM (by kernel_rfl) (Yld.to (yld_call (f := 30) (args := #[.agg #[.int .i64 ab, .int .i64 ar], .slice G2 pn c2]) hF (by kernel_rfl) (fun _ => by kernel_rfl) (fun w hM => (by rw [show pn = pp.length from by first | omega | (simp; done) | (simp; omega)]; exact fits3_w ab ar G2 pp _ w (ro_of_own (hM.ok 16 _ rfl))))) (congrArg Value.bool hcp)) fun a w hF hM => ?_)
                      refine sB 2 [(179, .bool true), (4, .bool true)] hF (by kernel_rfl) fun a hF => ?_
                      refine wpList_nil ?_
                      refine hK33 _ _ ?_
                      refine wp_ret ?_
                      refine hR0 _ _ ?_
                      refine ret_of hF hM (.tmp rfl (.nil)) ?_
                      exact ⟨rfl, hM.bel⟩

end Go.Proofs.Ytecofcjlokfkhaa
