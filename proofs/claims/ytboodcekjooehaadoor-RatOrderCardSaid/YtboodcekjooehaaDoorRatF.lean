/-
  Small fractions.
-/
import Derived.Test.YtboodcekjooehaaDoorRatE
import Derived.Test.YtboodcekjooehaaDoorRatLaws
namespace Go.Proofs.YtboodcekjooehaaDoor
open Go.RowKit
set_option linter.unusedVariables false
set_option linter.unusedSimpArgs false

theorem Is.to {n d c e : Int} (i : Is n d c e) {F : FuncId} {vs : Array Value} {w : World} (q : Calls Tryd.prog F vs w (Ret w (.tuple #[.agg #[.int .i64 (rmN n d), .int .i64 (rmD n d)], .int .i64 (rmE n d)]))) : Calls Tryd.prog F vs w (Ret w (.tuple #[.agg #[.int .i64 c, .int .i64 e], .int .i64 0])) := by
  rw [i.1, i.2.1, i.2.2.1] at q
  exact q
theorem Is.zero {n d : Int} (h : d = 0) {F : FuncId} {vs : Array Value} {w : World} (q : Calls Tryd.prog F vs w (Ret w (.tuple #[.agg #[.int .i64 (rmN n d), .int .i64 (rmD n d)], .int .i64 (rmE n d)]))) : Calls Tryd.prog F vs w (Ret w (.tuple #[.agg #[.int .i64 0, .int .i64 0], .int .i64 2])) := by
  have i := rm_2 (n := n) h
  rw [i.1, i.2.1, i.2.2] at q
  exact q
theorem cmp_to {x y : Int} (h : x = y) {F : FuncId} {vs : Array Value} {w : World} (q : Calls Tryd.prog F vs w (Ret w (.tuple #[.int .i64 x, .int .i64 0]))) : Calls Tryd.prog F vs w (Ret w (.tuple #[.int .i64 y, .int .i64 0])) := by
  rw [h] at q
  exact q
theorem agg_to {x y x' y' : Int} (h : x = x') (h' : y = y') {F : FuncId} {vs : Array Value} {w : World} (q : Calls Tryd.prog F vs w (Ret w (.agg #[.int .i64 x, .int .i64 y]))) : Calls Tryd.prog F vs w (Ret w (.agg #[.int .i64 x', .int .i64 y'])) := by
  rw [h, h'] at q
  exact q
theorem small_w (n d : Int) (w0 : World) (hT : Tab w0) (h : 0 ≤ d ∧ d ≤ 255 ∧ -128 ≤ n ∧ n ≤ 127) :
    Calls Tryd.prog 24 #[.int .i8 n, .int .u8 d] w0 (Ret w0 (.agg #[.int .i64 (rmN n (1 + d % 30)), .int .i64 (rmD n (1 + d % 30))])) := by
  refine enterK 18 Tryd.func24 rfl rfl rfl ?_
  intro a hF Q0 hR0 hN0
  have hM := Mem.start w0
  refine wp_seq_k fun K1 hK1 => ?_
  refine wp_region_lit ?_
  refine wl (eN 4 1 (t := 23) (fun b => .pointer (some ⟨b, 0, none⟩)) #[.int .i64 0, .int .i64 0] hF hM (by kernel_rfl) (fun _ => by kernel_rfl) fun bb1 a w hF hM => ?_)
  refine wpList_nil ?_
  refine hK1 _ _ ?_
  refine wp_seq_k fun K2 hK2 => ?_
  refine wp_region_lit ?_
  refine sB 1 [(8, .int .i8 n)] hF (by kernel_rfl) fun a hF => ?_
  refine wl (eP 9 (v0 := .int .i64 (IntKind.i64.wrap n)) (v := .int .i64 n) hF (by kernel_rfl) (fun _ => by kernel_rfl) (vi (IntWalk.i64_in _ (by omega))) fun a hF => ?_)
  refine sB 1 [(10, .int .u8 d)] hF (by kernel_rfl) fun a hF => ?_
  refine wl (eM 11 (v := .int .u8 (d % 30)) hF hM (by kernel_rfl) (yld_rem d 30 hF rfl (by kernel_rfl) (by kernel_rfl) (by kernel_rfl) (by decide) (Int.tmod_eq_emod_of_nonneg (by omega))) fun a w hF hM => ?_)
  refine wl (eP 12 (v0 := .int .i64 (IntKind.i64.wrap (d % 30))) (v := .int .i64 (d % 30)) hF (by kernel_rfl) (fun _ => by kernel_rfl) (vi (IntWalk.i64_in _ (by omega))) fun a hF => ?_)
  refine wl (eP 13 (v0 := .int .i64 (IntKind.i64.wrap (1 + d % 30))) (v := .int .i64 (1 + d % 30)) hF (by kernel_rfl) (fun _ => by kernel_rfl) (wi (by omega)) fun a hF => ?_)
  refine wl (eM 14 (v := .tuple #[.agg #[.int .i64 (rmN n (1 + d % 30)), .int .i64 (rmD n (1 + d % 30))], .int .i64 (rmE n (1 + d % 30))]) hF hM (by kernel_rfl) (yld_call (f := 10) (args := #[.int .i64 n, .int .i64 (1 + d % 30)]) hF (by kernel_rfl) (fun _ => by kernel_rfl) (fun w hM => raMake_w n (1 + d % 30) w (hT.below (Nat.le_refl _) hM.bel))) fun a w hF hM => ?_)
  refine sB 3 [(7, .tuple #[.agg #[.int .i64 (rmN n (1 + d % 30)), .int .i64 (rmD n (1 + d % 30))], .int .i64 (rmE n (1 + d % 30))]), (15, .agg #[.int .i64 (rmN n (1 + d % 30)), .int .i64 (rmD n (1 + d % 30))]), (16, .int .i64 (rmE n (1 + d % 30)))] hF (by kernel_rfl) fun a hF => ?_
  refine wl (eN 5 2 (t := 23) (fun b => .pointer (some ⟨b, 0, none⟩)) #[.int .i64 0, .int .i64 0] hF hM (by kernel_rfl) (fun _ => by kernel_rfl) fun bb2 a w hF hM => ?_)
  refine wl (sStore (i := 2) (off := 0) (cs' := #[.int .i64 (rmN n (1 + d % 30)), .int .i64 (rmD n (1 + d % 30))]) hF hM (by kernel_rfl) rfl rfl (by kernel_rfl) (by kernel_rfl) rfl (by kernel_rfl) fun w hM => ?_)
  refine sB 1 [(6, .int .i64 (rmE n (1 + d % 30)))] hF (by kernel_rfl) fun a hF => ?_
  refine wpList_nil ?_
  refine hK2 _ _ ?_
  refine wp_seq_k fun K3 hK3 => ?_
  refine wp_region_lit ?_
  refine wl (eL 17 2 0 (v := .agg #[.int .i64 (rmN n (1 + d % 30)), .int .i64 (rmD n (1 + d % 30))]) hF hM (by kernel_rfl) rfl rfl (by kernel_rfl) (by kernel_rfl) fun a w hF hM => ?_)
  refine wl (sStore (i := 1) (off := 0) (cs' := #[.int .i64 (rmN n (1 + d % 30)), .int .i64 (rmD n (1 + d % 30))]) hF hM (by kernel_rfl) rfl rfl (by kernel_rfl) (by kernel_rfl) rfl (by kernel_rfl) fun w hM => ?_)
  refine wpList_nil ?_
  refine hK3 _ _ ?_
  refine wp_ret ?_
  refine hR0 _ _ ?_
  refine ret_of hF hM (.cell (i := 1) rfl rfl (v := .agg #[.int .i64 (rmN n (1 + d % 30)), .int .i64 (rmD n (1 + d % 30))]) (by kernel_rfl) (.nil)) ?_
  exact ⟨rfl, hM.bel⟩

theorem small_is {n d : Int} (h : -128 ≤ n ∧ n ≤ 127 ∧ 0 ≤ d ∧ d ≤ 255) : ∃ c e : Int, rmN n (1 + d % 30) = c ∧ rmD n (1 + d % 30) = e ∧ sm c e := by
  obtain ⟨c, e, i, v, b1, b2, b3, b4⟩ := rm_get (n := n) (d := 1 + d % 30) 128 30 (by omega) (by omega) (by omega) (by decide) (by decide)
  exact ⟨c, e, i.2.1, i.2.2.1, i.2.2.2, b1, b2, b3, b4⟩
end Go.Proofs.YtboodcekjooehaaDoor
