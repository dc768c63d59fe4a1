/-
  Plain facts on drafts' traces, by pr and nt.
-/
import Derived.Test.YtoighcbbaacnaaaDraftPlain
import Derived.Test.YtoighcbbaacnaaaBk
namespace Go.Proofs.Ytoighcbbaacnaaa
theorem all16_nt {l : List Int} (h : All16 l) (k : Nat) : 0 ≤ nt l k ∧ nt l k ≤ 65535 := size_at h k
theorem gap_in {gaps : List Int} {k : Nat} (h : k < gaps.length) : gapSum gaps (k + 1) = gapSum gaps k + nt gaps k := gapSum_in (nt_some h)
theorem drTake_next (gaps sizes : List Int) (k : Nat) {t : Int} (h : gapSum gaps (k + 1) = t) : drTake gaps sizes k ++ [(t, 1 + nt sizes k)] = drTake gaps sizes (k + 1) := by
  rw [drTake_succ, h]
  rfl
theorem dr_trE {gaps sizes : List Int} (hg : All16 gaps) (hs : All16 sizes) : trE (drTrace gaps sizes) = 0 := by
  unfold trE
  rw [if_pos (drTrace_ok hg hs)]
theorem dr_le (gaps sizes : List Int) : (drTrace gaps sizes).length ≤ 30 := by rw [drTrace_length]; omega
theorem dr_pr {gaps sizes : List Int} (hg : All16 gaps) (hs : All16 sizes) {k : Nat} (hk : k < (drTrace gaps sizes).length) :
    0 ≤ (pr (drTrace gaps sizes) k).1 ∧ (pr (drTrace gaps sizes) k).1 ≤ 1966050 ∧ 1 ≤ (pr (drTrace gaps sizes) k).2 ∧ (pr (drTrace gaps sizes) k).2 ≤ 65536 := by
  rw [drTrace_length] at hk
  have e : pr (drTrace gaps sizes) k = (gapSum gaps (k + 1), 1 + sizes[k]?.getD 0) := by
    unfold pr drTrace
    rw [List.getD_eq_getElem?_getD, drTake_at hk]
    rfl
  have h1 := gapSum_bound hg (k + 1)
  have h2 := size_at hs k
  rw [e]
  simp only
  omega
end Go.Proofs.Ytoighcbbaacnaaa
