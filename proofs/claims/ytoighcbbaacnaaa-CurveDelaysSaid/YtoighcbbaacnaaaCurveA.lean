/-
  Contracts of package curve: ceil.
-/
import Derived.Test.YtoighcbbaacnaaaNumC
import Derived.Test.YtoighcbbaacnaaaCurvePlain
import Derived.Test.YtoighcbbaacnaaaBk
namespace Go.Proofs.Ytoighcbbaacnaaa
open Go.RowKit
set_option linter.unusedVariables false
set_option linter.unusedSimpArgs false

theorem ceil_w (xa xb xc : Int) (w0 : World) (h : -1125899906842624 ≤ xa ∧ xa ≤ 1125899906842624) :
    Calls Try.prog 47 #[.int .i64 xa, .int .i64 xb, .int .i64 xc] w0 (Ret w0 (.int .i64 (-mdV (-xa) xb xc))) := by
  refine enterK 19 Try.func47 rfl rfl rfl ?_
  intro a hF Q0 hR0 hN0
  have hM := Mem.start w0
  refine wp_seq_k fun K1 hK1 => ?_
  refine wp_region_lit ?_
  refine sB 1 [(6, .int .i64 0)] hF (by kernel_rfl) fun a hF => ?_
  refine wpList_nil ?_
  refine hK1 _ _ ?_
  refine wp_seq_k fun K2 hK2 => ?_
  refine wp_region_lit ?_
  refine sB 1 [(10, .int .i64 xa)] hF (by kernel_rfl) fun a hF => ?_
  refine wl (eP 11 (v0 := .int .i64 (IntKind.i64.wrap (0 - xa))) (v := .int .i64 (-xa)) hF (by kernel_rfl) (fun _ => by kernel_rfl) (vi (by rw [Int.zero_sub]; exact (w64 (by omega)))) fun a hF => ?_)
  refine sB 2 [(12, .int .i64 xb), (13, .int .i64 xc)] hF (by kernel_rfl) fun a hF => ?_
  refine wl (eM 14 (v := .tuple #[.int .i64 (mdV (-xa) xb xc), .bool (mdB (-xa) xb xc)]) hF hM (by kernel_rfl) (yld_call (f := 62) (args := #[.int .i64 (-xa), .int .i64 xb, .int .i64 xc]) hF (by kernel_rfl) (fun _ => by kernel_rfl) (fun w hM => mulDiv_w (-xa) xb xc w)) fun a w hF hM => ?_)
  have := md_bd (-xa) xb xc
  refine sB 5 [(9, .tuple #[.int .i64 (mdV (-xa) xb xc), .bool (mdB (-xa) xb xc)]), (15, .int .i64 (mdV (-xa) xb xc)), (16, .bool (mdB (-xa) xb xc)), (7, .int .i64 (mdV (-xa) xb xc)), (8, .bool (mdB (-xa) xb xc))] hF (by kernel_rfl) fun a hF => ?_
  refine wpList_nil ?_
  refine hK2 _ _ ?_
  refine wp_seq_k fun K3 hK3 => ?_
  refine wp_region_lit ?_
  refine sB 1 [(17, .int .i64 (mdV (-xa) xb xc))] hF (by kernel_rfl) fun a hF => ?_
  refine wl (eP 18 (v0 := .int .i64 (IntKind.i64.wrap (0 - mdV (-xa) xb xc))) (v := .int .i64 (-mdV (-xa) xb xc)) hF (by kernel_rfl) (fun _ => by kernel_rfl) (vi (by rw [Int.zero_sub]; exact (w64 (by omega)))) fun a hF => ?_)
  refine sB 1 [(6, .int .i64 (-mdV (-xa) xb xc))] hF (by kernel_rfl) fun a hF => ?_
  refine wpList_nil ?_
  refine hK3 _ _ ?_
  refine wp_ret ?_
  refine hR0 _ _ ?_
  refine ret_of hF hM (.tmp rfl (.nil)) ?_
  exact ⟨rfl, hM.bel⟩

theorem ceil_cq (x y d : Int) (w0 : World) (hx : 0 ≤ x ∧ x ≤ 1125899906842624) (hy : 0 ≤ y ∧ y ≤ 1125899906842624) (hd : 1 ≤ d ∧ d ≤ 1125899906842624) (hr : x * y ≤ 1125899906842624 * d) : Calls Try.prog 47 #[.int .i64 x, .int .i64 y, .int .i64 d] w0 (Ret w0 (.int .i64 (cq (x * y) d))) := by
  have q := ceil_w x y d w0 (by omega)
  rw [cq_md hx hy hd hr] at q
  exact q
end Go.Proofs.Ytoighcbbaacnaaa
