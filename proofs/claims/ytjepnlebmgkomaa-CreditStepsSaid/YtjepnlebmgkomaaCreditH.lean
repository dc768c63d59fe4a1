/-
  The reference's Step gives what the plain step gives, and so what credit.Step gives.
-/
import Derived.Test.YtjepnlebmgkomaaCreditF
import Derived.Test.YtjepnlebmgkomaaCreditG
namespace Go.Proofs.Ytjepnlebmgkomaa
open Go.RowKit

theorem RefStep_any (r p a l at_ free size : Int) (w : World) :
    Calls Try.prog 21 #[.agg #[.int .i64 r, .int .i64 p], .agg #[.int .i64 a, .int .i64 l], .int .i64 at_, .int .i64 free, .int .i64 size] w (Ret w (stepV r p a l at_ free size)) := by
  unfold stepV
  cases h1 : slopeB r p
  · exact RefStep_bad1 r p a l at_ free size w h1
  cases h2 : stateB a l
  · exact RefStep_bad2 r p a l at_ free size w h1 h2
  cases h3 : argB at_ free size
  · exact RefStep_bad3 r p a l at_ free size w h1 h2 h3
  have hr := (slopeB_iff.1 h1).1
  have hfin : ∀ (B L S : Int), idleA a at_ = B → idleL r a l at_ = L → max free (B + (max 0 (-L) + r - 1) / r) = S →
      stepStart r a l at_ free = S ∧ stepAt r p a l at_ free size = S + size * p ∧ stepLevel r p a l at_ free size = L + r * (S - B) + (r * p - 1048576) * size := by
    rintro B L S rfl rfl rfl
    exact ⟨rfl, rfl, rfl⟩
  rcases Int.lt_or_le a at_ with hc | hc
  · have e1 : idleA a at_ = at_ := by unfold idleA; omega
    have m := Int.mul_nonneg (show 0 ≤ r by omega) (show 0 ≤ at_ - a by omega)
    have e2 : idleL r a l at_ = min 0 (min 0 l + r * (at_ - a)) := by
      unfold idleL
      rw [if_neg (by omega)]
      omega
    rcases Int.lt_or_le (min 0 (min 0 l + r * (at_ - a)) + r * (max at_ free - at_)) 0 with hu | hu
    · have e3 := ref_start (l := min 0 (min 0 l + r * (at_ - a))) (b := at_) (free := free) hr
      rw [if_pos hu] at e3
      obtain ⟨s1, s2, s3⟩ := hfin _ _ _ e1 e2 e3.symm
      rw [s1, s2, s3]
      cases h4 : stateB (at_ + (-(min 0 (min 0 l + r * (at_ - a))) + r - 1) / r + size * p) (min 0 (min 0 l + r * (at_ - a)) + r * (at_ + (-(min 0 (min 0 l + r * (at_ - a))) + r - 1) / r - at_) + (r * p - 1048576) * size)
      · exact RefStep_late_low_big r p a l at_ free size w h1 h2 h3 hc hu h4
      · exact RefStep_late_low_ok r p a l at_ free size w h1 h2 h3 hc hu h4
    · have e3 := ref_start (l := min 0 (min 0 l + r * (at_ - a))) (b := at_) (free := free) hr
      rw [if_neg (by omega)] at e3
      obtain ⟨s1, s2, s3⟩ := hfin _ _ _ e1 e2 e3.symm
      rw [s1, s2, s3]
      cases h4 : stateB (max at_ free + size * p) (min 0 (min 0 l + r * (at_ - a)) + r * (max at_ free - at_) + (r * p - 1048576) * size)
      · exact RefStep_late_high_big r p a l at_ free size w h1 h2 h3 hc hu h4
      · exact RefStep_late_high_ok r p a l at_ free size w h1 h2 h3 hc hu h4
  · have e1 : idleA a at_ = a := by unfold idleA; omega
    have e2 : idleL r a l at_ = l := by unfold idleL; rw [if_pos hc]
    rcases Int.lt_or_le (l + r * (max a free - a)) 0 with hu | hu
    · have e3 := ref_start (l := l) (b := a) (free := free) hr
      rw [if_pos hu] at e3
      obtain ⟨s1, s2, s3⟩ := hfin _ _ _ e1 e2 e3.symm
      rw [s1, s2, s3]
      cases h4 : stateB (a + (-l + r - 1) / r + size * p) (l + r * (a + (-l + r - 1) / r - a) + (r * p - 1048576) * size)
      · exact RefStep_busy_low_big r p a l at_ free size w h1 h2 h3 hc hu h4
      · exact RefStep_busy_low_ok r p a l at_ free size w h1 h2 h3 hc hu h4
    · have e3 := ref_start (l := l) (b := a) (free := free) hr
      rw [if_neg (by omega)] at e3
      obtain ⟨s1, s2, s3⟩ := hfin _ _ _ e1 e2 e3.symm
      rw [s1, s2, s3]
      cases h4 : stateB (max a free + size * p) (l + r * (max a free - a) + (r * p - 1048576) * size)
      · exact RefStep_busy_high_big r p a l at_ free size w h1 h2 h3 hc hu h4
      · exact RefStep_busy_high_ok r p a l at_ free size w h1 h2 h3 hc hu h4
end Go.Proofs.Ytjepnlebmgkomaa
