/-
  More of the meter.
-/
import Derived.Test.YtncllmponigkgaaMeterE
import Derived.Test.YtncllmponigkgaaDraftW
namespace Go.Proofs.Ytncllmponigkgaa
open Go.RowKit
set_option linter.unusedVariables false
set_option linter.unusedSimpArgs false

theorem meterMark_ok (cb cr pb ps la co pe at_ size : Int) (w : World) (h : mkE cb cr pb ps la co pe at_ size = 0) : Calls Try.prog 15 #[.agg #[.int .i64 cb, .int .i64 cr], .agg #[.int .i64 pb, .int .i64 ps], .agg #[.int .i64 la, .int .i64 co, .int .i64 pe], .int .i64 at_, .int .i64 size] w (Ret w (.tuple #[.int .i64 (mkCol cb cr pb ps la co pe at_ size), .agg #[.int .i64 at_, .int .i64 (mkC cb cr pb ps la co pe at_ size), .int .i64 (mkP cb cr pb ps la co pe at_ size)], .int .i64 0])) := by
  have := meterMark_w cb cr pb ps la co pe at_ size w
  have e : mkL cb cr pb ps la co pe at_ size = at_ := by unfold mkL; rw [if_pos h]
  rwa [h, e] at this
theorem mrun_at {cb cr pb ps la co pe t s : Int} {l r : List (Int × Int)} {k : Nat} {cs : List Int} (h : mrun cb cr pb ps 0 (cb * 1048576) (pb * 1048576) l = cs ++ mrun cb cr pb ps la co pe (l.drop k)) (hx : l.drop k = (t, s) :: r) (hc : cs.length = k) :
    colr (up cb cr co (t - la)) (up pb ps pe (t - la)) (s * 1048576) = nt (mrunF cb cr pb ps l) k := by
  unfold mrunF nt
  rw [h, hx, mrun, ← hc]
  simp [List.getD]
end Go.Proofs.Ytncllmponigkgaa
