/-
  The meter in plain words: errors, the next state and the color of a frame.
-/
namespace Go.Proofs.Ytogeficooemngaa
def bkE (b r : Int) : Int := if 1 ≤ b ∧ b ≤ 1048576 ∧ 1 ≤ r ∧ r ≤ 2097152 then 0 else 130
theorem bkE_ok {b r : Int} (h : bkE b r = 0) : 1 ≤ b ∧ b ≤ 1048576 ∧ 1 ≤ r ∧ r ≤ 2097152 := by
  unfold bkE at h; omega
theorem bkE_no {b r : Int} (h : ¬ bkE b r = 0) : bkE b r = 130 := by
  unfold bkE at *; omega
def newE (cb cr pb ps : Int) : Int := if bkE cb cr = 0 ∧ bkE pb ps = 0 then (if ps < cr then 2 else 0) else 130
theorem newE_ok {cb cr pb ps : Int} (h : newE cb cr pb ps = 0) : 1 ≤ cb ∧ cb ≤ 1048576 ∧ 1 ≤ cr ∧ cr ≤ 2097152 ∧ 1 ≤ pb ∧ pb ≤ 1048576 ∧ cr ≤ ps ∧ ps ≤ 2097152 := by
  unfold newE bkE at h; omega
def newC (cb cr pb ps : Int) : Int := if newE cb cr pb ps = 0 then cb * 1048576 else 0
def newP (cb cr pb ps : Int) : Int := if newE cb cr pb ps = 0 then pb * 1048576 else 0
def mtE (cb cr pb ps la co pe : Int) : Int := if newE cb cr pb ps = 0 then (if la < 0 ∨ 1099511627776 < la ∨ co < 0 ∨ cb * 1048576 < co ∨ pe < 0 ∨ pb * 1048576 < pe then 420 else 0) else newE cb cr pb ps
theorem mtE_ok {cb cr pb ps la co pe : Int} (h : mtE cb cr pb ps la co pe = 0) : newE cb cr pb ps = 0 ∧ 0 ≤ la ∧ la ≤ 1099511627776 ∧ 0 ≤ co ∧ co ≤ cb * 1048576 ∧ 0 ≤ pe ∧ pe ≤ pb * 1048576 := by
  unfold mtE at h; omega
def mkE (cb cr pb ps la co pe at_ size : Int) : Int := if mtE cb cr pb ps la co pe = 0 then (if at_ < la ∨ 1099511627776 < at_ ∨ size < 1 ∨ 1048576 < size then 2 else 0) else mtE cb cr pb ps la co pe
theorem mkE_ok {cb cr pb ps la co pe at_ size : Int} (h : mkE cb cr pb ps la co pe at_ size = 0) : mtE cb cr pb ps la co pe = 0 ∧ la ≤ at_ ∧ at_ ≤ 1099511627776 ∧ 1 ≤ size ∧ size ≤ 1048576 := by
  unfold mkE at h; omega
/-- The tokens after a wait. -/
def up (b r n t : Int) : Int := min (b * 1048576) (n + r * t)
theorem up_bd {b r n t : Int} (hb : 0 ≤ b) (hn : 0 ≤ n) (hr : 0 ≤ r) (ht : 0 ≤ t) : 0 ≤ up b r n t ∧ up b r n t ≤ b * 1048576 := by
  have := Int.mul_nonneg hr ht
  unfold up
  omega
def colr (c p need : Int) : Int := if p < need then 2 else if c < need then 1 else 0
def mkCol (cb cr pb ps la co pe at_ size : Int) : Int := if mkE cb cr pb ps la co pe at_ size = 0 then colr (up cb cr co (at_ - la)) (up pb ps pe (at_ - la)) (size * 1048576) else 0
def mkL (cb cr pb ps la co pe at_ size : Int) : Int := if mkE cb cr pb ps la co pe at_ size = 0 then at_ else 0
def mkC (cb cr pb ps la co pe at_ size : Int) : Int := if mkE cb cr pb ps la co pe at_ size = 0 then (if mkCol cb cr pb ps la co pe at_ size = 0 then up cb cr co (at_ - la) - size * 1048576 else up cb cr co (at_ - la)) else 0
def mkP (cb cr pb ps la co pe at_ size : Int) : Int := if mkE cb cr pb ps la co pe at_ size = 0 then (if mkCol cb cr pb ps la co pe at_ size = 2 then up pb ps pe (at_ - la) else up pb ps pe (at_ - la) - size * 1048576) else 0
/-- The colors of a trace, from a state on. -/
def mrun (cb cr pb ps : Int) : Int → Int → Int → List (Int × Int) → List Int
  | _, _, _, [] => []
  | la, co, pe, (t, s) :: r => colr (up cb cr co (t - la)) (up pb ps pe (t - la)) (s * 1048576) ::
      mrun cb cr pb ps t (if colr (up cb cr co (t - la)) (up pb ps pe (t - la)) (s * 1048576) = 0 then up cb cr co (t - la) - s * 1048576 else up cb cr co (t - la))
        (if colr (up cb cr co (t - la)) (up pb ps pe (t - la)) (s * 1048576) = 2 then up pb ps pe (t - la) else up pb ps pe (t - la) - s * 1048576) r
theorem mrun_length (cb cr pb ps : Int) : ∀ (l : List (Int × Int)) (la co pe : Int), (mrun cb cr pb ps la co pe l).length = l.length
  | [], _, _, _ => rfl
  | (t, s) :: r, la, co, pe => by simp [mrun, mrun_length cb cr pb ps r]
theorem mrun_step {cb cr pb ps la co pe co' pe' c t s : Int} {l : List (Int × Int)} {k : Nat} {cs : List Int} (hx : l.drop k = (t, s) :: l.drop (k + 1)) (h : mrun cb cr pb ps 0 (cb * 1048576) (pb * 1048576) l = cs ++ mrun cb cr pb ps la co pe (l.drop k))
    (hc : colr (up cb cr co (t - la)) (up pb ps pe (t - la)) (s * 1048576) = c) (h1 : co' = if c = 0 then up cb cr co (t - la) - s * 1048576 else up cb cr co (t - la)) (h2 : pe' = if c = 2 then up pb ps pe (t - la) else up pb ps pe (t - la) - s * 1048576) :
    mrun cb cr pb ps 0 (cb * 1048576) (pb * 1048576) l = (cs ++ [c]) ++ mrun cb cr pb ps t co' pe' (l.drop (k + 1)) := by
  rw [h, hx, mrun, hc, ← h1, ← h2]
  simp
theorem mkE_zero {cb cr pb ps la co pe at_ size : Int} (h : newE cb cr pb ps = 0) (h1 : 0 ≤ la ∧ la ≤ at_ ∧ at_ ≤ 1099511627776) (h2 : 0 ≤ co ∧ co ≤ cb * 1048576) (h3 : 0 ≤ pe ∧ pe ≤ pb * 1048576) (h4 : 1 ≤ size ∧ size ≤ 1048576) : mkE cb cr pb ps la co pe at_ size = 0 := by
  unfold mkE mtE; omega
theorem mtE_zero {cb cr pb ps la co pe : Int} (h : newE cb cr pb ps = 0) (h1 : 0 ≤ la ∧ la ≤ 1099511627776) (h2 : 0 ≤ co ∧ co ≤ cb * 1048576) (h3 : 0 ≤ pe ∧ pe ≤ pb * 1048576) : mtE cb cr pb ps la co pe = 0 := by
  unfold mtE; omega
theorem mk_unf {cb cr pb ps la co pe at_ size : Int} (h : mkE cb cr pb ps la co pe at_ size = 0) :
    mkCol cb cr pb ps la co pe at_ size = colr (up cb cr co (at_ - la)) (up pb ps pe (at_ - la)) (size * 1048576) ∧
    mkC cb cr pb ps la co pe at_ size = (if mkCol cb cr pb ps la co pe at_ size = 0 then up cb cr co (at_ - la) - size * 1048576 else up cb cr co (at_ - la)) ∧
    mkP cb cr pb ps la co pe at_ size = (if mkCol cb cr pb ps la co pe at_ size = 2 then up pb ps pe (at_ - la) else up pb ps pe (at_ - la) - size * 1048576) := by
  unfold mkC mkP
  rw [if_pos h, if_pos h]
  refine ⟨?_, rfl, rfl⟩
  unfold mkCol
  rw [if_pos h]
theorem mk_bd {cb cr pb ps la co pe at_ size : Int} (h : mkE cb cr pb ps la co pe at_ size = 0) :
    0 ≤ mkC cb cr pb ps la co pe at_ size ∧ mkC cb cr pb ps la co pe at_ size ≤ cb * 1048576 ∧ 0 ≤ mkP cb cr pb ps la co pe at_ size ∧ mkP cb cr pb ps la co pe at_ size ≤ pb * 1048576 ∧ 0 ≤ mkCol cb cr pb ps la co pe at_ size ∧ mkCol cb cr pb ps la co pe at_ size ≤ 2 := by
  obtain ⟨e1, e2, e3⟩ := mk_unf h
  obtain ⟨hm, h1, h2, h3, h4⟩ := mkE_ok h
  obtain ⟨hn, a1, a2, a3, a4, a5, a6⟩ := mtE_ok hm
  obtain ⟨b1, b2, b3, b4, b5, b6, b7, b8⟩ := newE_ok hn
  have u1 := up_bd (b := cb) (r := cr) (n := co) (t := at_ - la) (by omega) (by omega) (by omega) (by omega)
  have u2 := up_bd (b := pb) (r := ps) (n := pe) (t := at_ - la) (by omega) (by omega) (by omega) (by omega)
  rw [e2, e3, e1]
  unfold colr
  omega
theorem up_up {b r n t u : Int} (hr : 0 ≤ r) (ht : 0 ≤ t) (hu : 0 ≤ u) : up b r (up b r n t) u = up b r n (t + u) := by
  have h1 := Int.mul_nonneg hr ht
  have h2 := Int.mul_nonneg hr hu
  unfold up
  rw [Int.mul_add]
  omega
/-- Waiting in two steps is waiting in one. -/
theorem mk_wait {cb cr pb ps la co pe t u size s2 : Int} (h1 : mkE cb cr pb ps la co pe t size = 0) (hc : mkCol cb cr pb ps la co pe t size = 2) (hu : t ≤ u)
    (h2 : mkE cb cr pb ps t (mkC cb cr pb ps la co pe t size) (mkP cb cr pb ps la co pe t size) u s2 = 0) (h3 : mkE cb cr pb ps la co pe u s2 = 0) :
    mkC cb cr pb ps t (mkC cb cr pb ps la co pe t size) (mkP cb cr pb ps la co pe t size) u s2 = mkC cb cr pb ps la co pe u s2 ∧ mkP cb cr pb ps t (mkC cb cr pb ps la co pe t size) (mkP cb cr pb ps la co pe t size) u s2 = mkP cb cr pb ps la co pe u s2 := by
  obtain ⟨e1, e2, e3⟩ := mk_unf h1
  obtain ⟨f1, f2, f3⟩ := mk_unf h2
  obtain ⟨g1, g2, g3⟩ := mk_unf h3
  obtain ⟨hm, k1, k2, k3, k4⟩ := mkE_ok h1
  obtain ⟨hn, a1, a2, a3, a4, a5, a6⟩ := mtE_ok hm
  obtain ⟨b1, b2, b3, b4, b5, b6, b7, b8⟩ := newE_ok hn
  have hC : mkC cb cr pb ps la co pe t size = up cb cr co (t - la) := by rw [e2, hc]; rfl
  have hP : mkP cb cr pb ps la co pe t size = up pb ps pe (t - la) := by rw [e3, hc]; rfl
  have v1 : up cb cr (mkC cb cr pb ps la co pe t size) (u - t) = up cb cr co (u - la) := by
    rw [hC, up_up (by omega) (by omega) (by omega), show t - la + (u - t) = u - la by omega]
  have v2 : up pb ps (mkP cb cr pb ps la co pe t size) (u - t) = up pb ps pe (u - la) := by
    rw [hP, up_up (by omega) (by omega) (by omega), show t - la + (u - t) = u - la by omega]
  rw [f2, f3, g2, g3, f1, g1, v1, v2]
  exact ⟨rfl, rfl⟩
end Go.Proofs.Ytogeficooemngaa
