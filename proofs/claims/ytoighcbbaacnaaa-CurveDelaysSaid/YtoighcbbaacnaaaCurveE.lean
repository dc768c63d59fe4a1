/-
  Contracts of package curve: Output; the reference.
-/
import Derived.Test.YtoighcbbaacnaaaCurveD
namespace Go.Proofs.Ytoighcbbaacnaaa
open Go.RowKit
set_option linter.unusedVariables false
set_option linter.unusedSimpArgs false

theorem dl_to {x y e : Int} (h : e = 0 ∧ x = y) {F : FuncId} {vs : Array Value} {w : World} (q : Calls Try.prog F vs w (Ret w (.tuple #[.int .i64 x, .int .i64 e]))) : Calls Try.prog F vs w (Ret w (.tuple #[.int .i64 y, .int .i64 0])) := by
  rw [h.1, h.2] at q
  exact q
theorem output_w (b q r t : Int) (w0 : World) :
    Calls Try.prog 24 #[.agg #[.int .i64 b, .int .i64 q], .agg #[.int .i64 r, .int .i64 t]] w0 (Ret w0 (.tuple #[.agg #[.int .i64 (ouB b q r t), .int .i64 (ouR b q r t)], .int .i64 (ouE b q r t)])) := by
  refine enterK 43 Try.func24 rfl rfl rfl ?_
  intro a hF Q0 hR0 hN0
  have hM := Mem.start w0
  refine wp_seq_k fun K1 hK1 => ?_
  refine wp_region_lit ?_
  refine wl (eN 2 1 (t := 39) (fun b => .pointer (some ⟨b, 0, none⟩)) #[.int .i64 b, .int .i64 q] hF hM (by kernel_rfl) (fun _ => by kernel_rfl) fun bb1 a w hF hM => ?_)
  refine wl (eN 3 2 (t := 23) (fun b => .pointer (some ⟨b, 0, none⟩)) #[.int .i64 r, .int .i64 t] hF hM (by kernel_rfl) (fun _ => by kernel_rfl) fun bb2 a w hF hM => ?_)
  refine wl (eN 4 3 (t := 39) (fun b => .pointer (some ⟨b, 0, none⟩)) #[.int .i64 0, .int .i64 0] hF hM (by kernel_rfl) (fun _ => by kernel_rfl) fun bb3 a w hF hM => ?_)
  refine sB 1 [(5, .int .i64 0)] hF (by kernel_rfl) fun a hF => ?_
  refine wpList_nil ?_
  refine hK1 _ _ ?_
  refine wp_seq_k fun K2 hK2 => ?_
  refine wp_seq_k fun K3 hK3 => ?_
  refine wp_region_lit ?_
  refine wl (eL 10 1 0 (v := .agg #[.int .i64 b, .int .i64 q]) hF hM (by kernel_rfl) rfl rfl (by kernel_rfl) (by kernel_rfl) fun a w hF hM => ?_)
  refine wl (eL 11 2 0 (v := .agg #[.int .i64 r, .int .i64 t]) hF hM (by kernel_rfl) rfl rfl (by kernel_rfl) (by kernel_rfl) fun a w hF hM => ?_)
  refine wl (eM 12 (v := .int .i64 (csE b q r t)) hF hM (by kernel_rfl) (yld_call (f := 46) (args := #[.agg #[.int .i64 b, .int .i64 q], .agg #[.int .i64 r, .int .i64 t]]) hF (by kernel_rfl) (fun _ => by kernel_rfl) (fun w hM => checkSlow_w b q r t w)) fun a w hF hM => ?_)
  refine sB 1 [(6, .int .i64 (csE b q r t))] hF (by kernel_rfl) fun a hF => ?_
  refine wpList_nil ?_
  refine hK3 _ _ ?_
  refine wp_seq_k fun K4 hK4 => ?_
  refine wp_region_lit ?_
  refine sB 2 [(13, .int .i64 (csE b q r t)), (14, .bool (!decide (csE b q r t = 0)))] hF (by kernel_rfl) fun a hF => ?_
  refine wpList_nil ?_
  refine hK4 _ _ ?_
  by_cases hz1 : csE b q r t = 0
  · skip
    have hz2 := cs_bd hz1
    replace hF := hF.c hF (i := 14) (v := .bool false) rfl (nT hz1)
    refine cF hF (by kernel_rfl) (by kernel_rfl) ?_
    refine wp_skip ?_
    refine hK2 _ _ ?_
    refine wp_seq_k fun K5 hK5 => ?_
    refine wp_region_lit ?_
    refine wl (eL 18 1 0 (v := .agg #[.int .i64 b, .int .i64 q]) hF hM (by kernel_rfl) rfl rfl (by kernel_rfl) (by kernel_rfl) fun a w hF hM => ?_)
    refine wl (eN 19 4 (t := 39) (fun b => .slice (some ⟨b, 0, none⟩) 1 1) #[.int .i64 b, .int .i64 q] hF hM (by kernel_rfl) (fun _ => by kernel_rfl) fun bb4 a w hF hM => ?_)
    refine wl (eL 20 2 0 (v := .agg #[.int .i64 r, .int .i64 t]) hF hM (by kernel_rfl) rfl rfl (by kernel_rfl) (by kernel_rfl) fun a w hF hM => ?_)
    refine wl (eM 21 (v := .tuple #[.int .i64 (t + cq (b * 1048576) r), .int .i64 0]) hF hM (by kernel_rfl) (yld_call (f := 20) (args := #[.slice (some ⟨bb4, 0, none⟩) 1 1, .agg #[.int .i64 r, .int .i64 t]]) hF (by kernel_rfl) (fun _ => by kernel_rfl) (fun w hM => dl_to (dl_one hz1) (delay_w r t (some ⟨bb4, 0, none⟩) [(b, q)] _ w (hM.roRow (k := 4) rfl)))) fun a w hF hM => ?_)
    have := cq_in (n := b * 1048576) (d := r) (B := 1099511627776) (by omega) (by omega) (by omega)
    refine sB 5 [(17, .tuple #[.int .i64 (t + cq (b * 1048576) r), .int .i64 0]), (22, .int .i64 (t + cq (b * 1048576) r)), (23, .int .i64 0), (7, .int .i64 (t + cq (b * 1048576) r)), (8, .int .i64 0)] hF (by kernel_rfl) fun a hF => ?_
    refine wpList_nil ?_
    refine hK5 _ _ ?_
    refine wp_seq_k fun K6 hK6 => ?_
    refine wp_seq_k fun K7 hK7 => ?_
    refine wp_region_lit ?_
    refine sB 1 [(24, .int .i64 0)] hF (by kernel_rfl) fun a hF => ?_
    refine wl (eP 25 (v0 := .bool (!decide (0 = 0))) (v := .bool false) hF (by kernel_rfl) (fun _ => by kernel_rfl) (nT (by omega)) fun a hF => ?_)
    refine wpList_nil ?_
    refine hK7 _ _ ?_
    refine cF hF (by kernel_rfl) (by kernel_rfl) ?_
    refine wp_skip ?_
    refine hK6 _ _ ?_
    refine wp_seq_k fun K8 hK8 => ?_
    have := cq_in (n := q * (t + cq (b * 1048576) r)) (d := 1048576) (B := 2199560126464) (by omega) (mul_bd (lo := 0) (hi := 2306405959167115264) (a := q) (b := (t + cq (b * 1048576) r)) (1) (2097152) (0) (1099780063232) (by omega) (by omega) (by omega) (by omega) (by decide)).1 (by have q := (mul_bd (lo := 0) (hi := 2306405959167115264) (a := q) (b := (t + cq (b * 1048576) r)) (1) (2097152) (0) (1099780063232) (by omega) (by omega) (by omega) (by omega) (by decide)); omega)
    refine rF (by kernel_rfl) (by kernel_rfl) (fun S a w => ∃ bb5 : Nat, Fr 43 [(2, some (.pointer (some ⟨bb1, 0, none⟩))), (4, some (.pointer (some ⟨bb3, 0, none⟩))), (5, some (.int .i64 0)), (7, some (.int .i64 (t + cq (b * 1048576) r))), (9, (cond (S.getD 10 false) (some (.pointer (some ⟨bb5, 0, none⟩))) none)), (28, (cond (S.getD 0 false) (some (.pointer (some ⟨bb1, 0, none⟩))) none)), (29, (cond (S.getD 1 false) (some (.int .i64 b)) none)), (30, (cond (S.getD 2 false) (some (.pointer (some ⟨bb1, 1, none⟩))) none)), (31, (cond (S.getD 3 false) (some (.int .i64 q)) none)), (32, (cond (S.getD 4 false) (some (.int .i64 (t + cq (b * 1048576) r))) none)), (33, (cond (S.getD 5 false) (some (.int .i64 (cq (q * (t + cq (b * 1048576) r)) 1048576))) none)), (34, (cond (S.getD 6 false) (some (.int .i64 (b + cq (q * (t + cq (b * 1048576) r)) 1048576))) none)), (35, (cond (S.getD 7 false) (some (.pointer (some ⟨bb1, 1, none⟩))) none)), (36, (cond (S.getD 8 false) (some (.int .i64 q)) none)), (37, (cond (S.getD 9 false) (some (.agg #[.int .i64 (b + cq (q * (t + cq (b * 1048576) r)) 1048576), .int .i64 q])) none))] a ∧ Mem w0.heap.size w0 [(1, some (.row bb1 39 #[.int .i64 b, .int .i64 q])), (3, some (.row bb3 39 #[.int .i64 0, .int .i64 0])), (5, (cond (S.getD 11 false) (some (.row bb5 39 #[.int .i64 (b + cq (q * (t + cq (b * 1048576) r)) 1048576), .int .i64 q])) (cond (S.getD 10 false) (some (.row bb5 39 #[.int .i64 0, .int .i64 0])) none)))] w) ?_ ?_ ?_
    · exact ⟨0, ((((((((((((((((Fr.nil hF).co hF (i := 37) (by kernel_rfl)).co hF (i := 36) (by kernel_rfl)).co hF (i := 35) (by kernel_rfl)).co hF (i := 34) (by kernel_rfl)).co hF (i := 33) (by kernel_rfl)).co hF (i := 32) (by kernel_rfl)).co hF (i := 31) (by kernel_rfl)).co hF (i := 30) (by kernel_rfl)).co hF (i := 29) (by kernel_rfl)).co hF (i := 28) (by kernel_rfl)).co hF (i := 9) (by kernel_rfl)).co hF (i := 7) (by kernel_rfl)).co hF (i := 5) (by kernel_rfl)).co hF (i := 4) (by kernel_rfl)).co hF (i := 2) (by kernel_rfl)), hM.drew.sub (((Sub.nil.co (k := 5) (by kernel_rfl)).co (k := 3) (by kernel_rfl)).co (k := 1) (by kernel_rfl))⟩
    · refine stC ?_ (stC ?_ (stC ?_ (stC ?_ (stC ?_ (stC ?_ (stC ?_ (stC ?_ (stC ?_ (stC ?_ (stC ?_ (stC ?_ (trivial))))))))))))
      · intro s0 s1 s2 s3 s4 s5 s6 s7 s8 s9 s10 s11 hc hi hp a w hS
        obtain rfl : s0 = false := hi
        obtain ⟨bb5, hF, hM⟩ := hS
        refine eP 28 (v0 := .pointer (some ⟨bb1, 0, none⟩)) (v := .pointer (some ⟨bb1, 0, none⟩)) hF (by kernel_rfl) (fun _ => by kernel_rfl) rfl fun a hF => ?_
        exact ⟨bb5, ((hF.repl 5 (by kernel_rfl)).cast (by kernel_rfl)), (hM.cast (by kernel_rfl))⟩
      · intro s0 s1 s2 s3 s4 s5 s6 s7 s8 s9 s10 s11 hc hi hp a w hS
        obtain rfl : s1 = false := hi
        obtain rfl : s0 = true := hp 0 (by kernel_rfl)
        obtain ⟨bb5, hF, hM⟩ := hS
        refine eL 29 1 0 (v := .int .i64 b) hF hM (by kernel_rfl) rfl rfl (by kernel_rfl) (by kernel_rfl) fun a w hF hM => ?_
        exact ⟨bb5, ((hF.repl 6 (by kernel_rfl)).cast (by kernel_rfl)), (hM.cast (by kernel_rfl))⟩
      · intro s0 s1 s2 s3 s4 s5 s6 s7 s8 s9 s10 s11 hc hi hp a w hS
        obtain rfl : s2 = false := hi
        obtain ⟨bb5, hF, hM⟩ := hS
        refine eP 30 (v0 := .pointer (some ⟨bb1, 1, none⟩)) (v := .pointer (some ⟨bb1, 1, none⟩)) hF (by kernel_rfl) (fun _ => by kernel_rfl) rfl fun a hF => ?_
        exact ⟨bb5, ((hF.repl 7 (by kernel_rfl)).cast (by kernel_rfl)), (hM.cast (by kernel_rfl))⟩
      · intro s0 s1 s2 s3 s4 s5 s6 s7 s8 s9 s10 s11 hc hi hp a w hS
        obtain rfl : s3 = false := hi
        obtain rfl : s2 = true := hp 2 (by kernel_rfl)
        obtain ⟨bb5, hF, hM⟩ := hS
        refine eL 31 1 1 (v := .int .i64 q) hF hM (by kernel_rfl) rfl rfl (by kernel_rfl) (by kernel_rfl) fun a w hF hM => ?_
        exact ⟨bb5, ((hF.repl 8 (by kernel_rfl)).cast (by kernel_rfl)), (hM.cast (by kernel_rfl))⟩
      · intro s0 s1 s2 s3 s4 s5 s6 s7 s8 s9 s10 s11 hc hi hp a w hS
        obtain rfl : s4 = false := hi
        obtain ⟨bb5, hF, hM⟩ := hS
        refine eP 32 (v0 := .int .i64 (t + cq (b * 1048576) r)) (v := .int .i64 (t + cq (b * 1048576) r)) hF (by kernel_rfl) (fun _ => by kernel_rfl) rfl fun a hF => ?_
        exact ⟨bb5, ((hF.repl 9 (by kernel_rfl)).cast (by kernel_rfl)), (hM.cast (by kernel_rfl))⟩
      · intro s0 s1 s2 s3 s4 s5 s6 s7 s8 s9 s10 s11 hc hi hp a w hS
        obtain rfl : s5 = false := hi
        obtain rfl : s4 = true := hp 4 (by kernel_rfl)
        obtain rfl : s3 = true := hp 3 (by kernel_rfl)
        obtain ⟨bb5, hF, hM⟩ := hS
        refine eM 33 (v := .int .i64 (cq (q * (t + cq (b * 1048576) r)) 1048576)) hF hM (by kernel_rfl) (yld_call (f := 47) (args := #[.int .i64 q, .int .i64 (t + cq (b * 1048576) r), .int .i64 1048576]) hF (by kernel_rfl) (fun _ => by kernel_rfl) (fun w hM => ceil_cq q (t + cq (b * 1048576) r) 1048576 w (by omega) (by omega) (by omega) (by have q := (mul_bd (lo := 0) (hi := 2306405959167115264) (a := q) (b := (t + cq (b * 1048576) r)) (1) (2097152) (0) (1099780063232) (by omega) (by omega) (by omega) (by omega) (by decide)); omega))) fun a w hF hM => ?_
        exact ⟨bb5, ((hF.repl 10 (by kernel_rfl)).cast (by kernel_rfl)), (hM.cast (by kernel_rfl))⟩
      · intro s0 s1 s2 s3 s4 s5 s6 s7 s8 s9 s10 s11 hc hi hp a w hS
        obtain rfl : s6 = false := hi
        obtain rfl : s5 = true := hp 5 (by kernel_rfl)
        obtain rfl : s1 = true := hp 1 (by kernel_rfl)
        obtain ⟨bb5, hF, hM⟩ := hS
        refine eP 34 (v0 := .int .i64 (IntKind.i64.wrap (b + cq (q * (t + cq (b * 1048576) r)) 1048576))) (v := .int .i64 (b + cq (q * (t + cq (b * 1048576) r)) 1048576)) hF (by kernel_rfl) (fun _ => by kernel_rfl) (wi (by omega)) fun a hF => ?_
        exact ⟨bb5, ((hF.repl 11 (by kernel_rfl)).cast (by kernel_rfl)), (hM.cast (by kernel_rfl))⟩
      · intro s0 s1 s2 s3 s4 s5 s6 s7 s8 s9 s10 s11 hc hi hp a w hS
        obtain rfl : s7 = false := hi
        obtain ⟨bb5, hF, hM⟩ := hS
        refine eP 35 (v0 := .pointer (some ⟨bb1, 1, none⟩)) (v := .pointer (some ⟨bb1, 1, none⟩)) hF (by kernel_rfl) (fun _ => by kernel_rfl) rfl fun a hF => ?_
        exact ⟨bb5, ((hF.repl 12 (by kernel_rfl)).cast (by kernel_rfl)), (hM.cast (by kernel_rfl))⟩
      · intro s0 s1 s2 s3 s4 s5 s6 s7 s8 s9 s10 s11 hc hi hp a w hS
        obtain rfl : s8 = false := hi
        obtain rfl : s7 = true := hp 7 (by kernel_rfl)
        obtain ⟨bb5, hF, hM⟩ := hS
        refine eL 36 1 1 (v := .int .i64 q) hF hM (by kernel_rfl) rfl rfl (by kernel_rfl) (by kernel_rfl) fun a w hF hM => ?_
        exact ⟨bb5, ((hF.repl 13 (by kernel_rfl)).cast (by kernel_rfl)), (hM.cast (by kernel_rfl))⟩
      · intro s0 s1 s2 s3 s4 s5 s6 s7 s8 s9 s10 s11 hc hi hp a w hS
        obtain rfl : s9 = false := hi
        obtain rfl : s8 = true := hp 8 (by kernel_rfl)
        obtain rfl : s6 = true := hp 6 (by kernel_rfl)
        obtain ⟨bb5, hF, hM⟩ := hS
        refine eP 37 (v0 := .agg #[.int .i64 (b + cq (q * (t + cq (b * 1048576) r)) 1048576), .int .i64 q]) (v := .agg #[.int .i64 (b + cq (q * (t + cq (b * 1048576) r)) 1048576), .int .i64 q]) hF (by kernel_rfl) (fun _ => by kernel_rfl) rfl fun a hF => ?_
        exact ⟨bb5, ((hF.repl 14 (by kernel_rfl)).cast (by kernel_rfl)), (hM.cast (by kernel_rfl))⟩
      · intro s0 s1 s2 s3 s4 s5 s6 s7 s8 s9 s10 s11 hc hi hp a w hS
        obtain rfl : s10 = false := hi
        obtain rfl : s11 = false := hc.f 11 10 (by kernel_rfl) rfl
        obtain ⟨bb5, hF, hM⟩ := hS
        refine eN 9 5 (t := 39) (fun b => .pointer (some ⟨b, 0, none⟩)) #[.int .i64 0, .int .i64 0] hF hM (by kernel_rfl) (fun _ => by kernel_rfl) fun bb5 a w hF hM => ?_
        exact ⟨bb5, ((hF.repl 4 (by kernel_rfl)).cast (by kernel_rfl)), ((hM.repl 2 (by kernel_rfl)).cast (by kernel_rfl))⟩
      · intro s0 s1 s2 s3 s4 s5 s6 s7 s8 s9 s10 s11 hc hi hp a w hS
        obtain rfl : s11 = false := hi
        obtain rfl : s10 = true := hp 10 (by kernel_rfl)
        obtain rfl : s9 = true := hp 9 (by kernel_rfl)
        obtain ⟨bb5, hF, hM⟩ := hS
        refine sStore (i := 5) (off := 0) (cs' := #[.int .i64 (b + cq (q * (t + cq (b * 1048576) r)) 1048576), .int .i64 q]) hF hM (by kernel_rfl) rfl rfl (by kernel_rfl) (by kernel_rfl) rfl (by kernel_rfl) fun w hM => ?_
        exact ⟨bb5, (hF.cast (by kernel_rfl)), ((hM.repl 2 (by kernel_rfl)).cast (by kernel_rfl))⟩
    · intro a w hS
      obtain ⟨bb5, hF, hM⟩ := hS
      replace hF : Fr 43 [(2, some (.pointer (some ⟨bb1, 0, none⟩))), (4, some (.pointer (some ⟨bb3, 0, none⟩))), (5, some (.int .i64 0)), (7, some (.int .i64 (t + cq (b * 1048576) r))), (9, some (.pointer (some ⟨bb5, 0, none⟩))), (28, some (.pointer (some ⟨bb1, 0, none⟩))), (29, some (.int .i64 b)), (30, some (.pointer (some ⟨bb1, 1, none⟩))), (31, some (.int .i64 q)), (32, some (.int .i64 (t + cq (b * 1048576) r))), (33, some (.int .i64 (cq (q * (t + cq (b * 1048576) r)) 1048576))), (34, some (.int .i64 (b + cq (q * (t + cq (b * 1048576) r)) 1048576))), (35, some (.pointer (some ⟨bb1, 1, none⟩))), (36, some (.int .i64 q)), (37, some (.agg #[.int .i64 (b + cq (q * (t + cq (b * 1048576) r)) 1048576), .int .i64 q]))] a := hF.cast (by kernel_rfl)
      replace hM : Mem w0.heap.size w0 [(1, some (.row bb1 39 #[.int .i64 b, .int .i64 q])), (3, some (.row bb3 39 #[.int .i64 0, .int .i64 0])), (5, some (.row bb5 39 #[.int .i64 (b + cq (q * (t + cq (b * 1048576) r)) 1048576), .int .i64 q]))] w := hM.cast (by kernel_rfl)
      refine hK8 _ _ ?_
      refine wp_seq_k fun K9 hK9 => ?_
      refine wp_seq_k fun K10 hK10 => ?_
      refine wp_region_lit ?_
      refine wl (eL 38 5 0 (v := .agg #[.int .i64 (b + cq (q * (t + cq (b * 1048576) r)) 1048576), .int .i64 q]) hF hM (by kernel_rfl) rfl rfl (by kernel_rfl) (by kernel_rfl) fun a w hF hM => ?_)
      refine wl (eM 39 (v := .int .i64 (bkE (b + cq (q * (t + cq (b * 1048576) r)) 1048576) q)) hF hM (by kernel_rfl) (yld_call (f := 40) (args := #[.agg #[.int .i64 (b + cq (q * (t + cq (b * 1048576) r)) 1048576), .int .i64 q]]) hF (by kernel_rfl) (fun _ => by kernel_rfl) (fun w hM => bkCheck_w (b + cq (q * (t + cq (b * 1048576) r)) 1048576) q w)) fun a w hF hM => ?_)
      refine sB 1 [(40, .bool (!decide (bkE (b + cq (q * (t + cq (b * 1048576) r)) 1048576) q = 0)))] hF (by kernel_rfl) fun a hF => ?_
      refine wpList_nil ?_
      refine hK10 _ _ ?_
      by_cases hz3 : bkE (b + cq (q * (t + cq (b * 1048576) r)) 1048576) q = 0
      · skip
        have hz4 := bkE_ok hz3
        replace hF := hF.c hF (i := 40) (v := .bool false) rfl (nT hz3)
        refine cF hF (by kernel_rfl) (by kernel_rfl) ?_
        refine wp_skip ?_
        refine hK9 _ _ ?_
        refine wp_seq_k fun K11 hK11 => ?_
        refine wp_region_lit ?_
        refine wl (eL 42 5 0 (v := .agg #[.int .i64 (b + cq (q * (t + cq (b * 1048576) r)) 1048576), .int .i64 q]) hF hM (by kernel_rfl) rfl rfl (by kernel_rfl) (by kernel_rfl) fun a w hF hM => ?_)
        refine wl (sStore (i := 3) (off := 0) (cs' := #[.int .i64 (b + cq (q * (t + cq (b * 1048576) r)) 1048576), .int .i64 q]) hF hM (by kernel_rfl) rfl rfl (by kernel_rfl) (by kernel_rfl) rfl (by kernel_rfl) fun w hM => ?_)
        refine sB 1 [(5, .int .i64 0)] hF (by kernel_rfl) fun a hF => ?_
        refine wpList_nil ?_
        refine hK11 _ _ ?_
        refine wp_ret ?_
        refine hR0 _ _ ?_
        refine ret_of hF hM (.cell (i := 3) rfl rfl (v := .agg #[.int .i64 (b + cq (q * (t + cq (b * 1048576) r)) 1048576), .int .i64 q]) (by kernel_rfl) (.tmp rfl (.nil))) ?_
        have hd := ou_0 hz1 (show bkE (ouN b q r t) q = 0 from hz3)
        exact ⟨ret_eq (by rw [hd.1, hd.2.1, hd.2.2]; rfl), hM.bel⟩
      · skip
        replace hF := hF.c hF (i := 40) (v := .bool true) rfl (nF hz3)
        refine cT hF (by kernel_rfl) (by kernel_rfl) ?_
        refine wp_seq_k fun K12 hK12 => ?_
        refine wp_region_lit ?_
        refine sB 1 [(41, .agg #[.int .i64 0, .int .i64 0])] hF (by kernel_rfl) fun a hF => ?_
        refine wl (sStore (i := 3) (off := 0) (cs' := #[.int .i64 0, .int .i64 0]) hF hM (by kernel_rfl) rfl rfl (by kernel_rfl) (by kernel_rfl) rfl (by kernel_rfl) fun w hM => ?_)
        refine sB 1 [(5, .int .i64 6)] hF (by kernel_rfl) fun a hF => ?_
        refine wpList_nil ?_
        refine hK12 _ _ ?_
        refine wp_ret ?_
        refine hR0 _ _ ?_
        refine ret_of hF hM (.cell (i := 3) rfl rfl (v := .agg #[.int .i64 0, .int .i64 0]) (by kernel_rfl) (.tmp rfl (.nil))) ?_
        have hd := ou_6 hz1 (show ¬ bkE (ouN b q r t) q = 0 from hz3)
        exact ⟨ret_eq (by rw [hd.1, hd.2.1, hd.2.2]; rfl), hM.bel⟩
  · skip
    replace hF := hF.c hF (i := 14) (v := .bool true) rfl (nF hz1)
    refine cT hF (by kernel_rfl) (by kernel_rfl) ?_
    refine wp_seq_k fun K13 hK13 => ?_
    refine wp_region_lit ?_
    refine sB 2 [(15, .agg #[.int .i64 0, .int .i64 0]), (16, .int .i64 (csE b q r t))] hF (by kernel_rfl) fun a hF => ?_
    refine wl (sStore (i := 3) (off := 0) (cs' := #[.int .i64 0, .int .i64 0]) hF hM (by kernel_rfl) rfl rfl (by kernel_rfl) (by kernel_rfl) rfl (by kernel_rfl) fun w hM => ?_)
    refine sB 1 [(5, .int .i64 (csE b q r t))] hF (by kernel_rfl) fun a hF => ?_
    refine wpList_nil ?_
    refine hK13 _ _ ?_
    refine wp_ret ?_
    refine hR0 _ _ ?_
    refine ret_of hF hM (.cell (i := 3) rfl rfl (v := .agg #[.int .i64 0, .int .i64 0]) (by kernel_rfl) (.tmp rfl (.nil))) ?_
    have hd := ou_cs hz1
    exact ⟨ret_eq (by rw [hd.1, hd.2.1, hd.2.2]; rfl), hM.bel⟩

theorem rCeil4_w (n d : Int) (w0 : World) (h : 0 ≤ n ∧ n ≤ 6917529027641081856 ∧ 1 ≤ d ∧ d ≤ 4398046511104) :
    Calls Try.prog 48 #[.int .i64 n, .int .i64 d] w0 (Ret w0 (.int .i64 (cq n d))) := by
  have hc := cq_ref (n := n) (d := d) (by omega)
  have hm := Int.ediv_mul_le n (show d ≠ 0 by omega)
  have hp := Int.mul_nonneg (Int.ediv_nonneg h.1 (show 0 ≤ d by omega)) (show 0 ≤ d by omega)
  have hn := Int.ediv_nonneg h.1 (show 0 ≤ d by omega)
  have hl := ediv_le_self_of (p := n) (q := d) (by omega) (by omega)
  refine enterK 17 Try.func48 rfl rfl rfl ?_
  intro a hF Q0 hR0 hN0
  have hM := Mem.start w0
  refine wp_seq_k fun K1 hK1 => ?_
  refine wp_region_lit ?_
  refine sB 1 [(4, .int .i64 0)] hF (by kernel_rfl) fun a hF => ?_
  refine wpList_nil ?_
  refine hK1 _ _ ?_
  refine wp_seq_k fun K2 hK2 => ?_
  refine wp_region_lit ?_
  refine sB 2 [(6, .int .i64 n), (7, .int .i64 d)] hF (by kernel_rfl) fun a hF => ?_
  refine wl (eM 8 (v := .int .i64 (n / d)) hF hM (by kernel_rfl) (yld_quo n d hF rfl (by kernel_rfl) (by kernel_rfl) (by kernel_rfl) (by omega) (qpos_i64 (by omega) (by omega) (by omega))) fun a w hF hM => ?_)
  have := ediv_le_self_of (p := n) (q := d) (by omega) (by omega)
  refine sB 1 [(5, .int .i64 (n / d))] hF (by kernel_rfl) fun a hF => ?_
  refine wpList_nil ?_
  refine hK2 _ _ ?_
  refine wp_seq_k fun K3 hK3 => ?_
  refine wp_seq_k fun K4 hK4 => ?_
  refine wp_region_lit ?_
  refine sB 2 [(9, .int .i64 (n / d)), (10, .int .i64 d)] hF (by kernel_rfl) fun a hF => ?_
  refine wl (eP 11 (v0 := .int .i64 (IntKind.i64.wrap (n / d * d))) (v := .int .i64 (n / d * d)) hF (by kernel_rfl) (fun _ => by kernel_rfl) (wi (by omega)) fun a hF => ?_)
  refine sB 2 [(12, .int .i64 n), (13, .bool (decide (n / d * d < n)))] hF (by kernel_rfl) fun a hF => ?_
  refine wpList_nil ?_
  refine hK4 _ _ ?_
  by_cases hz1 : n / d * d < n
  · skip
    replace hF := hF.c hF (i := 13) (v := .bool true) rfl (bT hz1)
    refine cT hF (by kernel_rfl) (by kernel_rfl) ?_
    refine wp_region_lit ?_
    refine sB 1 [(14, .int .i64 (n / d))] hF (by kernel_rfl) fun a hF => ?_
    refine wl (eP 15 (v0 := .int .i64 (IntKind.i64.wrap (n / d + 1))) (v := .int .i64 (n / d + 1)) hF (by kernel_rfl) (fun _ => by kernel_rfl) (wi (by omega)) fun a hF => ?_)
    refine sB 1 [(5, .int .i64 (n / d + 1))] hF (by kernel_rfl) fun a hF => ?_
    refine wpList_nil ?_
    refine hK3 _ _ ?_
    refine wp_seq_k fun K5 hK5 => ?_
    refine wp_region_lit ?_
    refine sB 2 [(16, .int .i64 (n / d + 1)), (4, .int .i64 (n / d + 1))] hF (by kernel_rfl) fun a hF => ?_
    refine wpList_nil ?_
    refine hK5 _ _ ?_
    refine wp_ret ?_
    refine hR0 _ _ ?_
    refine ret_of hF hM (.tmp rfl (.nil)) ?_
    exact ⟨ret_int (hc.1 (by omega)), hM.bel⟩
  · skip
    replace hF := hF.c hF (i := 13) (v := .bool false) rfl (bF hz1)
    refine cF hF (by kernel_rfl) (by kernel_rfl) ?_
    refine wp_skip ?_
    refine hK3 _ _ ?_
    refine wp_seq_k fun K6 hK6 => ?_
    refine wp_region_lit ?_
    refine sB 2 [(16, .int .i64 (n / d)), (4, .int .i64 (n / d))] hF (by kernel_rfl) fun a hF => ?_
    refine wpList_nil ?_
    refine hK6 _ _ ?_
    refine wp_ret ?_
    refine hR0 _ _ ?_
    refine ret_of hF hM (.tmp rfl (.nil)) ?_
    exact ⟨ret_int (hc.2 (by omega)), hM.bel⟩

end Go.Proofs.Ytoighcbbaacnaaa
