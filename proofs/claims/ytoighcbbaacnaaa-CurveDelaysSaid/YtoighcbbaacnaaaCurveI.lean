/-
  Named buckets.
-/
import Derived.Test.YtoighcbbaacnaaaCurveH
import Derived.Test.YtoighcbbaacnaaaDraftW
namespace Go.Proofs.Ytoighcbbaacnaaa
open Go.RowKit
set_option linter.unusedVariables false
set_option linter.unusedSimpArgs false

theorem agg_to {x y x' y' : Int} (h : x = x') (h' : y = y') {F : FuncId} {vs : Array Value} {w : World} (q : Calls Try.prog F vs w (Ret w (.agg #[.int .i64 x, .int .i64 y]))) : Calls Try.prog F vs w (Ret w (.agg #[.int .i64 x', .int .i64 y'])) := by
  rw [h, h'] at q
  exact q
theorem tup_to {x y x' y' : Int} (h : x = x') (h' : y = y') {F : FuncId} {vs : Array Value} {w : World} (q : Calls Try.prog F vs w (Ret w (.tuple #[.int .i64 x, .int .i64 y]))) : Calls Try.prog F vs w (Ret w (.tuple #[.int .i64 x', .int .i64 y'])) := by
  rw [h, h'] at q
  exact q
theorem jn_to {x y z x' y' z' : Int} (h : z = z' ∧ x = x' ∧ y = y') {F : FuncId} {vs : Array Value} {w : World} (q : Calls Try.prog F vs w (Ret w (.tuple #[.agg #[.int .i64 x, .int .i64 y], .int .i64 z]))) : Calls Try.prog F vs w (Ret w (.tuple #[.agg #[.int .i64 x', .int .i64 y'], .int .i64 z'])) := by
  rw [h.1, h.2.1, h.2.2] at q
  exact q
theorem cq_anti {n d e : Int} (hd : 1 ≤ d) (hn : 0 ≤ n) (h : d ≤ e) : cq n e ≤ cq n d := by
  have g := cq_ge (n := n) hd
  have p := cq_nn hd hn
  have m := Int.mul_le_mul_of_nonneg_left h p
  exact cq_le (by omega) (by omega)
theorem draftBucket_w (bu ra : Int) (g s : Value) (w0 : World) (h : 0 ≤ bu ∧ bu < 4294967296 ∧ 0 ≤ ra ∧ ra < 4294967296) :
    Calls Try.prog 19 #[.agg #[.int .u32 bu, .int .u32 ra, g, s]] w0 (Ret w0 (.agg #[.int .i64 (1 + bu % 1048576), .int .i64 (1 + ra % 2097152)])) := by
  refine enterK 14 Try.func19 rfl rfl rfl ?_
  intro a hF Q0 hR0 hN0
  have hM := Mem.start w0
  refine wp_seq_k fun K1 hK1 => ?_
  refine wp_region_lit ?_
  refine wl (eN 1 1 (t := 42) (fun b => .pointer (some ⟨b, 0, none⟩)) #[.int .u32 bu, .int .u32 ra, g, s] hF hM (by kernel_rfl) (fun _ => by kernel_rfl) fun bb1 a w hF hM => ?_)
  refine wl (eN 2 2 (t := 39) (fun b => .pointer (some ⟨b, 0, none⟩)) #[.int .i64 0, .int .i64 0] hF hM (by kernel_rfl) (fun _ => by kernel_rfl) fun bb2 a w hF hM => ?_)
  refine wpList_nil ?_
  refine hK1 _ _ ?_
  refine wp_seq_k fun K2 hK2 => ?_
  refine wp_region_lit ?_
  refine sB 1 [(3, .pointer (some ⟨bb1, 0, none⟩))] hF (by kernel_rfl) fun a hF => ?_
  refine wl (eL 4 1 0 (v := .int .u32 bu) hF hM (by kernel_rfl) rfl rfl (by kernel_rfl) (by kernel_rfl) fun a w hF hM => ?_)
  refine wl (eM 5 (v := .int .u32 (bu % 1048576)) hF hM (by kernel_rfl) (yld_rem bu 1048576 hF rfl (by kernel_rfl) (by kernel_rfl) (by kernel_rfl) (by decide) (Int.tmod_eq_emod_of_nonneg (by omega))) fun a w hF hM => ?_)
  refine wl (eP 6 (v0 := .int .i64 (IntKind.i64.wrap (bu % 1048576))) (v := .int .i64 (bu % 1048576)) hF (by kernel_rfl) (fun _ => by kernel_rfl) (vi (IntWalk.i64_in _ (by omega))) fun a hF => ?_)
  refine wl (eP 7 (v0 := .int .i64 (IntKind.i64.wrap (1 + bu % 1048576))) (v := .int .i64 (1 + bu % 1048576)) hF (by kernel_rfl) (fun _ => by kernel_rfl) (wi (by omega)) fun a hF => ?_)
  refine sB 1 [(8, .pointer (some ⟨bb1, 1, none⟩))] hF (by kernel_rfl) fun a hF => ?_
  refine wl (eL 9 1 1 (v := .int .u32 ra) hF hM (by kernel_rfl) rfl rfl (by kernel_rfl) (by kernel_rfl) fun a w hF hM => ?_)
  refine wl (eM 10 (v := .int .u32 (ra % 2097152)) hF hM (by kernel_rfl) (yld_rem ra 2097152 hF rfl (by kernel_rfl) (by kernel_rfl) (by kernel_rfl) (by decide) (Int.tmod_eq_emod_of_nonneg (by omega))) fun a w hF hM => ?_)
  refine wl (eP 11 (v0 := .int .i64 (IntKind.i64.wrap (ra % 2097152))) (v := .int .i64 (ra % 2097152)) hF (by kernel_rfl) (fun _ => by kernel_rfl) (vi (IntWalk.i64_in _ (by omega))) fun a hF => ?_)
  refine wl (eP 12 (v0 := .int .i64 (IntKind.i64.wrap (1 + ra % 2097152))) (v := .int .i64 (1 + ra % 2097152)) hF (by kernel_rfl) (fun _ => by kernel_rfl) (wi (by omega)) fun a hF => ?_)
  refine sB 1 [(13, .agg #[.int .i64 (1 + bu % 1048576), .int .i64 (1 + ra % 2097152)])] hF (by kernel_rfl) fun a hF => ?_
  refine wl (sStore (i := 2) (off := 0) (cs' := #[.int .i64 (1 + bu % 1048576), .int .i64 (1 + ra % 2097152)]) hF hM (by kernel_rfl) rfl rfl (by kernel_rfl) (by kernel_rfl) rfl (by kernel_rfl) fun w hM => ?_)
  refine wpList_nil ?_
  refine hK2 _ _ ?_
  refine wp_ret ?_
  refine hR0 _ _ ?_
  refine ret_of hF hM (.cell (i := 2) rfl rfl (v := .agg #[.int .i64 (1 + bu % 1048576), .int .i64 (1 + ra % 2097152)]) (by kernel_rfl) (.nil)) ?_
  exact ⟨rfl, hM.bel⟩

end Go.Proofs.Ytoighcbbaacnaaa
