/-
  More of credit.Run.
-/
import Derived.Test.YtjepnlebmgkomaaCrE
import Derived.Test.YtjepnlebmgkomaaCrRunPlain
namespace Go.Proofs.Ytjepnlebmgkomaa
open Go.RowKit
set_option linter.unusedVariables false
set_option linter.unusedSimpArgs false

theorem crRun_errE {r p : Int} {l : List (Int × Int)} {free : List Int} {f : FuncId} {args : Array Value} {w : World} (h : ¬ runE r p l free = 0) (hc : Calls Try.prog f args w (RunPost w (runS r p l free))) : Calls Try.prog f args w (Ret w (.tuple #[.slice none 0 0, .agg #[.int .i64 0, .int .i64 0], .int .i64 (runE r p l free)])) :=
  hc.mono fun _ _ hp => hp.2 h
end Go.Proofs.Ytjepnlebmgkomaa
