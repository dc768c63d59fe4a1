/-
  Curves in plain words: the latest departures.
-/
import Derived.Test.YtoighcbbaacnaaaCurveLaws2
import Derived.Test.YtoighcbbaacnaaaFirstPlain
namespace Go.Proofs.Ytoighcbbaacnaaa
set_option linter.unusedVariables false
theorem cq_up {n d : Int} (hd : 1 ≤ d) : (n + d - 1) / d = cq n d := by
  have h1 := Int.ediv_mul_le (n + d - 1) (show d ≠ 0 by omega)
  have h2 := Int.lt_ediv_add_one_mul_self (n + d - 1) (show 0 < d by omega)
  rw [Int.add_mul, Int.one_mul] at h2
  exact cq_uni hd (by omega) (by omega)
def enN (r : Int) (l : List (Int × Int)) : Nat → Int
  | 0 => 0
  | k + 1 => max (enN r l k) ((pr l k).1 * r) + (pr l k).2 * 1048576
def drL (r t : Int) (l : List (Int × Int)) : Nat → List Int
  | 0 => []
  | k + 1 => drL r t l k ++ [t + cq (enN r l (k + 1)) r]
theorem drL_len (r t : Int) (l : List (Int × Int)) : ∀ k, (drL r t l k).length = k
  | 0 => rfl
  | k + 1 => by show (drL r t l k ++ _).length = _; rw [List.length_append, drL_len r t l k]; rfl
def drE (r t : Int) (l : List (Int × Int)) : Int := if trE l = 0 then svE r t else trE l
theorem dr_1 {r t : Int} {l : List (Int × Int)} (h : ¬ trE l = 0) : drE r t l = trE l := by unfold drE; rw [if_neg h]
theorem dr_2 {r t : Int} {l : List (Int × Int)} (h : trE l = 0) : drE r t l = svE r t := by unfold drE; rw [if_pos h]
theorem dr_step {r t : Int} {l : List (Int × Int)} {k : Nat} {got : List Int} {en e : Int} (hr : 1 ≤ r) (hg : got = drL r t l k) (he : en = enN r l k) (hm : e = max en ((pr l k).1 * r) + (pr l k).2 * 1048576) : got ++ [t + (e + r - 1) / r] = drL r t l (k + 1) ∧ e = enN r l (k + 1) := by
  have h2 : e = enN r l (k + 1) := by rw [hm, he]; rfl
  refine ⟨?_, h2⟩
  show _ = drL r t l k ++ _
  rw [hg, cq_up hr, h2]
end Go.Proofs.Ytoighcbbaacnaaa
