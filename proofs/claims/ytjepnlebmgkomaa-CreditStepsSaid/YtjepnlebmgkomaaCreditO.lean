/-
  The walks of the reference's Trace with sizes cut to the greatest size, and of the law's trace.
-/
import Derived.Test.YtjepnlebmgkomaaCreditN
import Derived.Deep.RegionHeld3
import Derived.Deep.AppendLies
namespace Go.Proofs.Ytjepnlebmgkomaa
open Go.RowKit
set_option linter.unusedVariables false

theorem own_blk {w : World} {base e size n c g : Nat} {xs : List Value} (h : w.ownsRow base e size (.slice (some ⟨g, 0, none⟩) n c) n xs) : ∃ cur, Blk w g e cur := by
  rcases h.2 with ⟨h0, _⟩ | ⟨g', cap, cur, hv, _, hh, _⟩
  · cases h0
  · have e0 : g = g' := by
      injection hv with hv
      injection hv with hv
      injection hv
    subst e0
    exact ⟨cur, hh⟩
theorem flat2_set (m : List (Int × Int)) : ∀ (k : Nat) (a s u : Int), m[k]? = some (a, s) → flat2 (m.set k (a, u)) = (flat2 m).set (k * 2 + 1) (.int .i64 u) := by
  induction m with
  | nil => intro k a s u h; simp at h
  | cons y r ih =>
    intro k a s u h
    have e : ∀ x : Int × Int, ∀ t, flat2 (x :: t) = .int .i64 x.1 :: .int .i64 x.2 :: flat2 t := fun x t => by simp [flat2]
    cases k with
    | zero =>
      simp at h
      subst h
      simp [e]
    | succ k =>
      rw [List.set_cons_succ, e, e, ih k a s u (by simpa using h), show (k + 1) * 2 + 1 = k * 2 + 1 + 1 + 1 by omega, List.set_cons_succ, List.set_cons_succ]
def capX (x : Int × Int) : Int × Int := (x.1, 1 + x.2 % 1542)
def capK (l : List (Int × Int)) (k : Nat) : List (Int × Int) := (l.take k).map capX ++ l.drop k
theorem capK_zero (l : List (Int × Int)) : capK l 0 = l := by simp [capK]
theorem capK_all {l : List (Int × Int)} {k : Nat} (h : l.length ≤ k) : capK l k = l.map capX := by simp [capK, List.take_of_length_le h, List.drop_eq_nil_of_le h]
theorem capK_length (l : List (Int × Int)) (k : Nat) : (capK l k).length = l.length := by simp [capK]; omega
theorem capK_at {l : List (Int × Int)} {k : Nat} {x : Int × Int} (h : l[k]? = some x) : (capK l k)[k]? = some x := by
  have hk := (List.getElem?_eq_some_iff.1 h).1
  unfold capK
  rw [List.getElem?_append_right (by simp; omega), List.length_map, List.length_take, List.getElem?_drop, ← h]
  congr 1
  omega
theorem capK_succ {l : List (Int × Int)} {k : Nat} {a s : Int} (h : l[k]? = some (a, s)) : capK l (k + 1) = (capK l k).set k (a, 1 + s % 1542) := by
  obtain ⟨hk, e⟩ := List.getElem?_eq_some_iff.1 h
  unfold capK
  rw [List.take_succ_eq_append_getElem hk, e, List.drop_eq_getElem_cons hk, e, List.map_append, List.set_append_right _ _ (by simp; omega)]
  have e1 : k - ((l.take k).map capX).length = 0 := by simp; omega
  rw [e1, List.set_cons_zero]
  simp [capX]

set_option maxHeartbeats 1000000 in
theorem refTrace_any (bu ra : Int) (Ga Sa : Option Addr) (gaps sizes : List Int) (cg cs : Nat) (w : World) (hG : Arr1 .u16 w w.heap.size Ga gaps) (hS : Arr1 .u16 w w.heap.size Sa sizes) (h16 : All16 gaps) (h16' : All16 sizes)
    (hm : gaps.length ≤ 9223372036854775807) (hm' : sizes.length ≤ 9223372036854775807) :
    Calls Try.prog 11 #[.agg #[.int .u32 bu, .int .u32 ra, .slice Ga gaps.length cg, .slice Sa sizes.length cs]] w (TracePost w ((drTrace gaps sizes).map capX)) := by
  obtain ⟨l, hl⟩ : ∃ l, l = drTrace gaps sizes := ⟨_, rfl⟩
  have HD : Hid (∀ W : World, Below w.heap.size w W → Calls Try.prog 10 #[.agg #[.int .u32 bu, .int .u32 ra, .slice Ga gaps.length cg, .slice Sa sizes.length cs]] W (TracePost W l)) := hide fun W hb => by rw [hl]; exact draftTrace_any bu ra Ga Sa gaps sizes cg cs W ((hG.below hb (Nat.le_refl _)).more hb.size) ((hS.below hb (Nat.le_refl _)).more hb.size) h16 h16' hm hm'
  have hln : l.length ≤ 30 := by rw [hl, drTrace_length]; omega
  have HS2 : Hid (∀ (k : Nat) (a s : Int), l[k]? = some (a, s) → 1 ≤ s ∧ s ≤ 65536) := hide fun k a s hk => by
    rw [hl] at hk
    have hk' : k < min 30 sizes.length := by have := (List.getElem?_eq_some_iff.1 hk).1; rw [drTrace_length] at this; exact this
    unfold drTrace at hk
    rw [drTake_at hk'] at hk
    injection hk with hk
    injection hk with h1 h2
    have b2 := size_at h16' k
    omega
  rw [← hl]
  obtain ⟨ng, hng⟩ : ∃ n, gaps.length = n := ⟨_, rfl⟩
  obtain ⟨ns, hns⟩ : ∃ n, sizes.length = n := ⟨_, rfl⟩
  rw [hng, hns] at HD
  rw [hng, hns]
  obtain ⟨n, hn⟩ : ∃ n, l.length = n := ⟨_, rfl⟩
  rw [hn] at hln
  have HN := hide hn
  clear hG hS h16 h16' hm hm' hl hng hns hn
  go_enter Try.func11, Try.ntmps11
  go_wp2_with fail
  refine (HD.out _ ?_).mono ?_
  · (repeat (first | exact Below.refl _ _ | assumption | refine Below.drew ?_ | refine Below.setCell ?_ (by first | omega | (simp; done) | (simp; omega)) _ | refine Below.alloc ?_ (by first | omega | (simp; done) | (simp; omega)) _ | refine below_on ?_ (by assumption) (by first | omega | (simp; done) | (simp; omega))))
  rintro e w1 ⟨A, c, rfl, hO, hb1⟩
  rw [HN.out] at hO ⊢
  have hL1 : Below w.heap.size w w1 := by (repeat (first | exact Below.refl _ _ | assumption | refine Below.drew ?_ | refine Below.setCell ?_ (by first | omega | (simp; done) | (simp; omega)) _ | refine Below.alloc ?_ (by first | omega | (simp; done) | (simp; omega)) _ | refine below_on ?_ (by assumption) (by first | omega | (simp; done) | (simp; omega))))
  have HO1 : Hid (w1.ownsRow w.heap.size 57 2 (.slice A n c) n (flat2 l)) := hide (own_base hO (by simp))
  clear hO hb1
  go_wp2_with fail
  go_loopw [4] (fun i wr => ∃ k : Nat, k ≤ n ∧ i = .int .i64 k ∧ Hid (wr.ownsRow w.heap.size 57 2 (.slice A n c) n (flat2 (capK l k))) ∧ Below w.heap.size w wr) (fun i _ => n - (intOf i).toNat)
  case atStart => exact ⟨0, Nat.zero_le _, rfl, hide (by rw [capK_zero]; exact HO1.out), hL1⟩
  case round =>
    clear HO1
    obtain ⟨k, hk, rfl, HO, hb⟩ := hrel
    by_cases hlt : k < n
    · obtain ⟨⟨a, s⟩, hx⟩ := at_of_lt (l := l) (k := k) (by have := HN.out; omega)
      have hsz := HS2.out k a s hx
      obtain ⟨g, rfl, hg, hgl, hcl⟩ := own_cells HO.out (by omega)
      have g2 : wr.cell? ⟨g, k * 2 + 1, none⟩ = some (.int .i64 s) := by
        have := hcl (k * 2 + 1) _ (flat2_at _ k _ (capK_at hx)).2
        rwa [Nat.zero_add] at this
      obtain ⟨cur, hcur⟩ := own_blk HO.out
      have f2 := hcur.frozen (k * 2 + 1)
      have HX := hide hx
      clear hx hcl hcur
      go_wp2_with fail
      go_roundw
      case rel =>
        refine ⟨k + 1, by omega, by go_num, hide ?_, hb.setCell (p := ⟨g, k * 2 + 1, none⟩) hg _⟩
        rw [capK_succ HX.out, flat2_set _ k a s _ (capK_at HX.out)]
        exact (HO.out.stored _ _).1
      case measure => simp [intOf]; omega
    · go_wp2_with fail
      go_ret
      refine ⟨A, c, ?_, ?_, hb⟩
      · rw [List.length_map, HN.out]; rfl
      · rw [List.length_map, HN.out, ← capK_all (k := k) (by have := HN.out; omega)]
        exact HO.out
end Go.Proofs.Ytjepnlebmgkomaa
